import PyProof.Rows.All
import HandS.TupSets
import KE.KeyNested
import KE.KDictKeyed
import Wide.All
import OpenK.AllK
import Wide.FinOn
import PyProof.EqAt
import PyProof.EqKinds
import PyProof.TupleCall
import HandS.ForMost
import HandS.Exc
import HandS.TryOnly
import HandS.ExcOwn
import HandS.Defaults
import HandS.Head0
import HandS.Head1
import HandS.Head2
import HandS.HeadEnd
import HandS.HeadHook1
import HandS.HeadHook2
import HandS.IsInst
import HandS.TupAny
import HandS.HotCalls
import HandS.ExcIs
import HandS.More
import KE.DataCmp
import HandS.Deep
import KE.SortCalls
import HandS.Iter
import HandS.Style
import HandS.Small
import KE.DataMinMax
import HandS.Conv
import KE.KIntText
import KE.KDictSum
import KE.KDictCopyH
import KE.KDictDisplayH
import HandS.List
import HandS.SortKw
import HandS.Zip
import HandS.Walk
import PySem.Challenge.RW_pieceyard_k45_refusals_of_papers
set_option Elab.async false
set_option linter.all false
set_option maxRecDepth 100000
set_option maxHeartbeats 0
section
/-! the data layer: values as pure data, a def as a plain function of data -/
namespace DL
open PySem PySem.Spec L2
open PyProof.Rows hiding St

/-- pure data -/
inductive D where
  | non | bl (b : Bool) | int (i : Int) | str (s : Str)
  | lst (xs : List D) | tup (xs : List D)
  | dic (ks vs : List D) | ins (c : Str) (ns : List Str) (fs : List D)
  deriving Inhabited

/-- a slot: empty, data, a list that the def owns, the handled exception -/
inductive OC where
  | l (xs : List D) | k (ks vs : List D)
  deriving Inhabited
inductive Sl where
  | no | d (x : D) | cell (c : OC) | exn (c : Str)
  deriving Inhabited
/-- .. the def's own list, dict -/
abbrev Sl.own (xs : List D) : Sl := .cell (.l xs)
abbrev Env := List Sl
inductive Res (α : Type) where
  | ok (a : α) (ρ : Env) | exc (c : Str) (ρ : Env) | stuck
abbrev M (α : Type) := Env → Res α
inductive Flow where
  | nx | ret (d : D) | brk | ct
abbrev MS := M Flow

/-- what never changes -/
def Fixed : HO → Prop
  | .tup _ => True
  | .frz _ _ => True
  | .ins _ _ _ => True
  | _ => False
def Stable (H H' : Hp) : Prop := ∀ a o, H a = some o → Fixed o → H' a = some o
theorem Stable.rfl {H : Hp} : Stable H H := fun _ _ h _ => h
theorem Stable.trans {H1 H2 H3 : Hp} (a : Stable H1 H2) (b : Stable H2 H3) : Stable H1 H3 := fun x o h f => b x o (a x o h f) f
def Grow (H H' : Hp) : Prop := ∀ a o, H a = some o → H' a = some o
theorem Grow.rfl {H : Hp} : Grow H H := fun _ _ h => h
theorem Grow.stable {H H' : Hp} (g : Grow H H') : Stable H H' := fun a o h _ => g a o h
theorem Grow.trans {H1 H2 H3 : Hp} (a : Grow H1 H2) (b : Grow H2 H3) : Grow H1 H3 := fun x o h => b x o (a x o h)
theorem Grow.new {H : Hp} {p : Addr} {o : HO} (hp : H p = none) : Grow H (upd H p o) := fun a u h => by
  rw [upd_ne (ne_of_none h hp)]; exact h

/-- the module: the written part, the names -/
structure Md where
  K : PySem.W.Frag
  mg : Str → Option Value
  w : World
/-- the ghost context: the module, the heap at the entry, the by-reference parameters -/
structure Gh where
  m : Md
  H0 : Hp
  pr : List (Nat × Addr)
  ex : Option (Addr × Str) := none

def SqF (K : PySem.W.Frag) (H : Hp) (a : Addr) (xs : List V) : Prop :=
  (∃ o, H a = some (.frz o (.lst xs))) ∨ ∃ (its : Array Value) (n : Nat), K.lookup a = some { cls := .type "list", data := .seq its n } ∧ its.size ≤ sizeLine ∧ Vals xs its.toList
theorem SqF.sq {K : PySem.W.Frag} {H : Hp} {a : Addr} {xs : List V} (h : SqF K H a xs) : SqL K H a xs := by
  rcases h with ⟨o, h⟩ | ⟨its, n, h1, h2, h3⟩
  · exact .inl (.inr ⟨o, h⟩)
  · exact .inr ⟨_, its, n, h1, rfl, rfl, rfl, h2, h3⟩
theorem SqF.st {K : PySem.W.Frag} {H H' : Hp} {a : Addr} {xs : List V} (s : Stable H H') (h : SqF K H a xs) : SqF K H' a xs := by
  rcases h with ⟨o, h⟩ | h
  · exact .inl ⟨o, s _ _ h trivial⟩
  · exact .inr h
theorem SqT_st {K : PySem.W.Frag} {H H' : Hp} {a : Addr} {xs : List V} (s : Stable H H') (h : SqT K H a xs) : SqT K H' a xs := by
  rcases h with (h | ⟨o, h⟩) | h
  · exact .inl (.inl (s _ _ h trivial))
  · exact .inl (.inr ⟨o, s _ _ h trivial⟩)
  · exact .inr h
/-- a dict with nested keys, at a: keys, where they stand, values -/
abbrev NEnt := NestedKey × Addr × V
def entN (w : World) (k : NestedKey) (a : Addr) (v : Value) : DictEntry := { hash := NestedKey.hash w k, key := .ref a, val := v }
def NdH (w : World) (a : Addr) (kvs : List NEnt) (h : Heap) : Prop := kvs.length ≤ sizeLine ∧ (a == sysModules) = false ∧ ∃ us : List Value, Vals (kvs.map (·.2.2)) us ∧ ∃ o es ep, h.get? a = some o ∧ o.ExactDict ∧ o.data = .dict es ep ∧ es.toList = (kvs.zip us).map (fun p => entN w p.1.1 p.1.2.1 p.2) ∧ (kvs.map (·.1)).Nodup
def NdO (w : World) (a : Addr) (kvs : List NEnt) : HO := .ext (NdH w a kvs)
mutual
def nkD : NestedKey → D
  | .none => .non
  | .num i => .int i
  | .text x => .str x
  | .tup ks => .tup (nkDs ks)
def nkDs : List NestedKey → List D
  | [] => []
  | k :: ks => nkD k :: nkDs ks
end
/-- a flat key -/
def isK : D → Bool
  | .int _ => true
  | .str _ => true
  | _ => false
def keyD : Key → D
  | .inl i => .int i
  | .inr x => .str x

mutual
inductive Rep (m : Md) (H : Hp) : V → D → Prop
  | non : Rep m H .non .non
  | bl (b : Bool) : Rep m H (.bl b) (.bl b)
  | int (i : Int) : Rep m H (.int i) (.int i)
  | str (x : Str) : Rep m H (.str x) (.str x)
  | lst {a : Addr} {vs : List V} {ds : List D} : SqF m.K H a vs → RepL m H vs ds → Rep m H (.ref a) (.lst ds)
  | tup {a : Addr} {vs : List V} {ds : List D} : SqT m.K H a vs → RepL m H vs ds → Rep m H (.ref a) (.tup ds)
  | ins {a C dx : Addr} {c : Str} {ns : List Str} {vs : List V} {ds : List D} : m.mg c = some (.ref C) → H a = some (.ins C dx (ns.zip vs)) → ns.length = vs.length → RepL m H vs ds → Rep m H (.ref a) (.ins c ns ds)
  | dicK {a : Addr} {o : Obj} {kvs : List (Key × V)} {ds : List D} : H a = some (.frz o (.dK kvs)) → RepL m H (kvs.map (·.2)) ds → Rep m H (.ref a) (.dic (kvs.map fun p => keyD p.1) ds)
  | dicN {a : Addr} {o : Obj} {kvs : List NEnt} {ks ds : List D} : H a = some (.frz o (NdO m.w a kvs)) → kvs ≠ [] → ks = kvs.map (fun p => nkD p.1) → RepL m H (kvs.map fun p => .ref p.2.1) ks → RepL m H (kvs.map (·.2.2)) ds → Rep m H (.ref a) (.dic ks ds)
inductive RepL (m : Md) (H : Hp) : List V → List D → Prop
  | nil : RepL m H [] []
  | cons {v : V} {vs : List V} {d : D} {ds : List D} : Rep m H v d → RepL m H vs ds → RepL m H (v :: vs) (d :: ds)
end
section
variable {m : Md} {H H' : Hp}
mutual
theorem Rep.st (s : Stable H H') : ∀ {d : D} {v : V}, Rep m H v d → Rep m H' v d
  | .non, _, h => by cases h; exact .non
  | .bl b, _, h => by cases h; exact .bl b
  | .int i, _, h => by cases h; exact .int i
  | .str x, _, h => by cases h; exact .str x
  | .lst ds, _, h => by
    cases h with
    | lst q r => exact .lst (q.st s) (RepL.st s r)
  | .tup ds, _, h => by
    cases h with
    | tup q r => exact .tup (SqT_st s q) (RepL.st s r)
  | .ins c ns ds, _, h => by
    cases h with
    | ins m' q e r => exact .ins m' (s _ _ q trivial) e (RepL.st s r)
  | .dic ks ds, _, h => by
    cases h with
    | dicK q r => exact .dicK (s _ _ q trivial) (RepL.st s r)
    | dicN q n e r1 r2 => exact .dicN (s _ _ q trivial) n e (RepL.st s r1) (RepL.st s r2)
theorem RepL.st (s : Stable H H') : ∀ {ds : List D} {vs : List V}, RepL m H vs ds → RepL m H' vs ds
  | [], _, h => by cases h; exact .nil
  | d :: ds, _, h => by
    cases h with
    | cons a b => exact .cons (Rep.st s a) (RepL.st s b)
end
theorem RepL.len : ∀ {vs : List V} {ds : List D}, RepL m H vs ds → vs.length = ds.length
  | _, [], h => by cases h; rfl
  | _, d :: ds, h => by
    cases h with
    | cons a b => simp [RepL.len b]
theorem RepL.get : ∀ {vs : List V} {ds : List D} {i : Nat} {d : D}, RepL m H vs ds → ds[i]? = some d → ∃ v, vs[i]? = some v ∧ Rep m H v d
  | _, [], i, d, h, e => by simp at e
  | _, x :: ds, 0, d, h, e => by
    cases h with
    | cons a b => simp at e; subst e; exact ⟨_, rfl, a⟩
  | _, x :: ds, i + 1, d, h, e => by
    cases h with
    | cons a b =>
      obtain ⟨v, h1, h2⟩ := RepL.get (i := i) (d := d) b (by simpa using e)
      exact ⟨v, by simpa using h1, h2⟩
theorem RepL.getV : ∀ {vs : List V} {ds : List D} {i : Nat} {v : V}, RepL m H vs ds → vs[i]? = some v → ∃ d, ds[i]? = some d ∧ Rep m H v d
  | _, [], i, v, h, e => by cases h; simp at e
  | _, x :: ds, 0, v, h, e => by
    cases h with
    | cons a b => simp at e; subst e; exact ⟨_, rfl, a⟩
  | _, x :: ds, i + 1, v, h, e => by
    cases h with
    | cons a b =>
      obtain ⟨d, h1, h2⟩ := RepL.getV (i := i) (v := v) b (by simpa using e)
      exact ⟨d, by simpa using h1, h2⟩
theorem RepL.append : ∀ {vs ws : List V} {ds es : List D}, RepL m H vs ds → RepL m H ws es → RepL m H (vs ++ ws) (ds ++ es)
  | _, _, [], _, h, k => by cases h; exact k
  | _, _, x :: ds, _, h, k => by
    cases h with
    | cons a b => exact .cons a (RepL.append b k)
theorem RepL.set {v : V} {d : D} (r : Rep m H v d) : ∀ {vs : List V} {ds : List D} (i : Nat), RepL m H vs ds → RepL m H (vs.set i v) (ds.set i d)
  | _, [], i, h => by cases h; exact .nil
  | _, x :: ds, 0, h => by
    cases h with
    | cons a b => exact .cons r b
  | _, x :: ds, i + 1, h => by
    cases h with
    | cons a b => exact .cons a (RepL.set r i b)
theorem RepL.take : ∀ {vs : List V} {ds : List D} (n : Nat), RepL m H vs ds → RepL m H (vs.take n) (ds.take n)
  | _, _, 0, h => by simp; exact .nil
  | _, [], n + 1, h => by cases h; exact .nil
  | _, x :: ds, n + 1, h => by
    cases h with
    | cons a b => exact .cons a (RepL.take n b)
theorem RepL.drop : ∀ {vs : List V} {ds : List D} (n : Nat), RepL m H vs ds → RepL m H (vs.drop n) (ds.drop n)
  | _, _, 0, h => by simpa using h
  | _, [], n + 1, h => by cases h; exact .nil
  | _, x :: ds, n + 1, h => by
    cases h with
    | cons a b => simpa using RepL.drop n b
theorem RepL.reverse : ∀ {vs : List V} {ds : List D}, RepL m H vs ds → RepL m H vs.reverse ds.reverse
  | _, [], h => by cases h; exact .nil
  | _, x :: ds, h => by
    cases h with
    | cons a b => simp only [List.reverse_cons]; exact RepL.append (RepL.reverse b) (.cons a .nil)
end

/-- keys of a nested dict are no flat ones -/
theorem notK {m : Md} {H : Hp} {kvs : List NEnt} {ks : List D} (r : RepL m H (kvs.map fun p => V.ref p.2.1) ks) (n : kvs ≠ []) (h : ks.all isK = true) : False := by
  cases kvs with
  | nil => exact n rfl
  | cons p l =>
    cases r with
    | cons a b =>
      rw [List.all_cons, Bool.and_eq_true] at h
      cases a <;> simp [isK] at h
/-- the object o at a holds c -/
def RepO (m : Md) (H : Hp) (a : Addr) (o : HO) : OC → Prop
  | .l xs => ∃ vs, o = .lst vs ∧ RepL m H vs xs
  | .k ks ds => (∃ kvs : List (Key × V), o = .dK kvs ∧ ks = kvs.map (fun p => keyD p.1) ∧ RepL m H (kvs.map (·.2)) ds) ∨
    ∃ kvs : List NEnt, o = NdO m.w a kvs ∧ kvs ≠ [] ∧ ks = kvs.map (fun p => nkD p.1) ∧ RepL m H (kvs.map fun p => .ref p.2.1) ks ∧ RepL m H (kvs.map (·.2.2)) ds
theorem RepO.st {m : Md} {H H' : Hp} {a : Addr} {o : HO} (s : Stable H H') : ∀ {c : OC}, RepO m H a o c → RepO m H' a o c
  | .l _, ⟨vs, e, r⟩ => ⟨vs, e, r.st s⟩
  | .k _ _, .inl ⟨kvs, e, e2, r⟩ => .inl ⟨kvs, e, e2, r.st s⟩
  | .k _ _, .inr ⟨kvs, e, n, e2, r1, r2⟩ => .inr ⟨kvs, e, n, e2, r1.st s, r2.st s⟩
theorem RepO.nf {m : Md} {H : Hp} {a : Addr} {o : HO} : ∀ {c : OC}, RepO m H a o c → ¬ Fixed o
  | .l _, ⟨vs, e, r⟩ => by subst e; exact id
  | .k _ _, .inl ⟨kvs, e, _⟩ => by subst e; exact id
  | .k _ _, .inr ⟨kvs, e, _⟩ => by subst e; exact id
theorem RepO.mt {m : Md} {H : Hp} {a : Addr} {o : HO} : ∀ {c : OC}, RepO m H a o c → Mut (some o)
  | .l _, ⟨vs, e, r⟩ => by subst e; trivial
  | .k _ _, .inl ⟨kvs, e, _⟩ => by subst e; trivial
  | .k _ _, .inr ⟨kvs, e, _⟩ => by subst e; trivial
/-! ### the state against the slots -/
structure StOk (G : Gh) (σ : St) (H : Hp) (ρ : Env) : Prop where
  len : σ.length = ρ.length
  dat : ∀ (i : Nat) (x : D), ρ[i]? = some (.d x) → ∃ v, σ[i]? = some (some v) ∧ Rep G.m H v x
  own : ∀ (i : Nat) (xs : OC), ρ[i]? = some (.cell xs) → ∃ a vs, σ[i]? = some (some (.ref a)) ∧ H a = some vs ∧ RepO G.m H a vs xs ∧ ((∀ p ∈ G.pr, p.1 ≠ i) → G.H0 a = none ∧ ∀ p ∈ G.pr, p.2 ≠ a)
  sep : ∀ (i j : Nat) (xs ys : OC) (a : Addr), i ≠ j → ρ[i]? = some (.cell xs) → ρ[j]? = some (.cell ys) → σ[i]? = some (some (.ref a)) → σ[j]? ≠ some (some (.ref a))
  prot : ∀ p ∈ G.pr, σ[p.1]? = some (some (.ref p.2)) ∧ ∃ xs, ρ[p.1]? = some (.cell xs)
  keep : ∀ a o, G.H0 a = some o → (∀ p ∈ G.pr, p.2 ≠ a) → H a = some o
  exn : ∀ (i : Nat) (c : Str), ρ[i]? = some (.exn c) → ∃ a, G.ex = some (a, c) ∧ σ[i]? = some (some (.ref a))
/-- a is no own list's place -/
def Fresh (G : Gh) (σ : St) (ρ : Env) (a : Addr) : Prop := G.H0 a = none ∧ (∀ p ∈ G.pr, p.2 ≠ a) ∧ ∀ (i : Nat) (xs : OC), ρ[i]? = some (.cell xs) → σ[i]? ≠ some (some (.ref a))
section
variable {G : Gh} {σ : St} {H H' : Hp} {ρ : Env} {a p : Addr} {o : HO}
theorem StOk.fresh (k : StOk G σ H ρ) (hp : H p = none) : Fresh G σ ρ p := by
  refine ⟨?_, ?_, ?_⟩
  · cases e : G.H0 p with
    | none => rfl
    | some u =>
      by_cases c : ∀ q ∈ G.pr, q.2 ≠ p
      · have z := k.keep p u e c
        rw [hp] at z; cases z
      · exfalso
        apply c
        intro q hq e2
        obtain ⟨h1, xs, h2⟩ := k.prot q hq
        obtain ⟨b, vs, h3, h4, _⟩ := k.own q.1 xs h2
        rw [h1] at h3
        injection h3 with h3; injection h3 with h3; injection h3 with h3
        rw [← h3, e2, hp] at h4; cases h4
  · intro q hq e2
    obtain ⟨h1, xs, h2⟩ := k.prot q hq
    obtain ⟨b, vs, h3, h4, _⟩ := k.own q.1 xs h2
    rw [h1] at h3
    injection h3 with h3; injection h3 with h3; injection h3 with h3
    rw [← h3, e2, hp] at h4; cases h4
  · intro i xs hi e
    obtain ⟨b, vs, h3, h4, _⟩ := k.own i xs hi
    rw [e] at h3
    injection h3 with h3; injection h3 with h3; injection h3 with h3
    rw [← h3, hp] at h4; cases h4
/-- new objects -/
theorem StOk.grow (k : StOk G σ H ρ) (g : Grow H H') : StOk G σ H' ρ where
  len := k.len
  dat := fun i x h => by obtain ⟨v, h1, h2⟩ := k.dat i x h; exact ⟨v, h1, h2.st g.stable⟩
  own := fun i xs h => by obtain ⟨b, vs, h1, h2, h3, h4⟩ := k.own i xs h; exact ⟨b, vs, h1, g _ _ h2, h3.st g.stable, h4⟩
  sep := k.sep
  prot := k.prot
  keep := fun b u h1 h2 => g _ _ (k.keep b u h1 h2)
  exn := k.exn
/-- a place that is no own list's is written -/
theorem StOk.upd (k : StOk G σ H ρ) (f : Fresh G σ ρ p) (hf : ∀ u, H p = some u → ¬ Fixed u) : StOk G σ (upd H p o) ρ := by
  have st : Stable H (L2.upd H p o) := fun b u hb hx => by
    by_cases e : b = p
    · subst e; exact absurd hx (hf _ hb)
    · rw [upd_ne e]; exact hb
  refine ⟨k.len, ?_, ?_, k.sep, k.prot, ?_, k.exn⟩
  · intro i x h; obtain ⟨v, h1, h2⟩ := k.dat i x h; exact ⟨v, h1, h2.st st⟩
  · intro i xs h
    obtain ⟨b, vs, h1, h2, h3, h4⟩ := k.own i xs h
    refine ⟨b, vs, h1, ?_, h3.st st, h4⟩
    rw [upd_ne]
    · exact h2
    · intro e; subst e; exact f.2.2 i xs h h1
  · intro b u h1 h2
    have : b ≠ p := by intro e; subst e; rw [f.1] at h1; cases h1
    rw [upd_ne this]; exact k.keep b u h1 h2
end

end DL
end
section
namespace DL
open PySem PySem.Spec L2
open PyProof.Rows hiding St

/-! ### the monad -/
def pureM {α : Type} (x : α) : M α := fun ρ => .ok x ρ
def bindM {α β : Type} (a : M α) (k : α → M β) : M β := fun ρ => match a ρ with
  | .ok x ρ' => k x ρ'
  | .exc c ρ' => .exc c ρ'
  | .stuck => .stuck
def stuckM {α : Type} : M α := fun _ => .stuck
def liftM {α : Type} : Option α → M α
  | some x => pureM x
  | none => stuckM
def getM (i : Nat) : M D := fun ρ => match ρ[i]? with
  | some (.d x) => .ok x ρ
  | _ => .stuck
/-- an own list, read -/
def getO (i : Nat) : M (List D) := fun ρ => match ρ[i]? with
  | some (.cell (.l xs)) => .ok xs ρ
  | _ => .stuck
def putO (i : Nat) (xs : List D) : M Unit := fun ρ => .ok () (ρ.set i (.own xs))
def postG {α : Type} (G : Gh) (W : WX) (σ : L2.St) (H : Hp) (r : Res α) (Q : α → Env → Hp → Prop) : Prop := match r with
  | .ok a ρ => ∀ H', Stable H H' → StOk G σ H' ρ → Q a ρ H'
  | .exc c ρ => ∀ C H', G.m.mg c = some (.ref C) → Stable H H' → StOk G σ H' ρ → W (.ref C) none σ H'
  | .stuck => False
section
variable {G : Gh} {W : WX} {σ : L2.St} {H H1 : Hp} {α β : Type}
theorem postG.from {r : Res α} {Q : α → Env → Hp → Prop} (s : Stable H H1) (h : postG G W σ H r Q) : postG G W σ H1 r Q := by
  cases r with
  | ok a ρ => exact fun H' s' k => h H' (s.trans s') k
  | exc c ρ => exact fun C H' e s' k => h C H' e (s.trans s') k
  | stuck => exact h
theorem postG.mono {r : Res α} {Q Q' : α → Env → Hp → Prop} (h : postG G W σ H r Q) (k : ∀ a ρ H', r = .ok a ρ → Stable H H' → StOk G σ H' ρ → Q a ρ H' → Q' a ρ H') : postG G W σ H r Q' := by
  cases r with
  | ok a ρ => exact fun H' s' st => k a ρ H' rfl s' st (h H' s' st)
  | exc c ρ => exact h
  | stuck => exact h
theorem postG.bind {a : M α} {k : α → M β} {ρ : Env} {Q : β → Env → Hp → Prop} (h : postG G W σ H (bindM a k ρ) Q) :
    postG G W σ H (a ρ) (fun x ρ1 H1 => postG G W σ H1 (k x ρ1) Q) := by
  unfold bindM at h
  cases e : a ρ with
  | ok x ρ1 =>
    rw [e] at h
    exact fun H1 s1 _ => postG.from s1 h
  | exc c ρ1 => rw [e] at h; exact h
  | stuck => rw [e] at h; exact h
theorem postG.lift {o : Option α} {ρ : Env} {Q : α → Env → Hp → Prop} (k : StOk G σ H ρ) (h : postG G W σ H (liftM o ρ) Q) : ∃ x, o = some x ∧ ∀ H', Stable H H' → StOk G σ H' ρ → Q x ρ H' := by
  cases o with
  | some x => exact ⟨x, rfl, h⟩
  | none => exact h.elim
end

/-! ### expressions -/
def dT (G : Gh) (W : WX) (f : M D) : TE := fun σ H Q => ∃ ρ, StOk G σ H ρ ∧ postG G W σ H (f ρ) fun d _ H' => ∀ v, Rep G.m H' v d → Q v H'
/-- the expression computes f -/
def DE (X : Cx) (G : Gh) (W : WX) (e : Expr) (f : M D) : Prop := PE X e (dT G W f)
/-- .. a list of its own -/
def oT (G : Gh) (W : WX) (f : M (List D)) : TE := fun σ H Q => ∃ ρ, StOk G σ H ρ ∧ postG G W σ H (f ρ) fun ds ρ' H' => ∀ a vs, H' a = some (.lst vs) → RepL G.m H' vs ds → Fresh G σ ρ' a → Q (.ref a) H'
def DO (X : Cx) (G : Gh) (W : WX) (e : Expr) (f : M (List D)) : Prop := PE X e (oT G W f)
/-- a test -/
def tT (G : Gh) (W : WX) (f : M Bool) : TT := fun σ H Q => ∃ ρ, StOk G σ H ρ ∧ postG G W σ H (f ρ) fun b _ H' => Q b H'
def DT (X : Cx) (G : Gh) (W : WX) (e : Expr) (f : M Bool) : Prop := PT X e (tT G W f)
/-- arguments, all of them data -/
def aT (G : Gh) (W : WX) (f : M (List D)) : TA := fun σ H Q => ∃ ρ, StOk G σ H ρ ∧ postG G W σ H (f ρ) fun ds _ H' => ∀ vs, RepL G.m H' vs ds → Q vs H'
def DA (X : Cx) (G : Gh) (W : WX) (es : List Expr) (f : M (List D)) : Prop := PA X es (aT G W f)
theorem pe_imp {X : Cx} {e : Expr} {t t' : TE} (h : PE X e t) (k : ∀ σ H Q, t' σ H Q → t σ H Q) : PE X e t' := ⟨fun pins s σ H Q I q => h.run pins s σ H Q I (k σ H Q q)⟩
theorem pt_imp {X : Cx} {e : Expr} {t t' : TT} (h : PT X e t) (k : ∀ σ H Q, t' σ H Q → t σ H Q) : PT X e t' := ⟨fun pins s σ H Q I q => h.run pins s σ H Q I (k σ H Q q)⟩
theorem pw_imp {X : Cx} {e : Expr} {t t' : TT} (h : PW X e t) (k : ∀ σ H Q, t' σ H Q → t σ H Q) : PW X e t' := ⟨fun wh pins s σ H Q I q => h.run wh pins s σ H Q I (k σ H Q q)⟩
theorem pa_imp {X : Cx} {es : List Expr} {t t' : TA} (h : PA X es t) (k : ∀ σ H Q, t' σ H Q → t σ H Q) : PA X es t' := ⟨fun pos pins s σ H Q I q => h.run pos pins s σ H Q I (k σ H Q q)⟩
theorem ps_imp {X : Cx} {e : Stmt} {t t' : TS} (h : PS X e t) (k : ∀ D σ H, t' D σ H → t D σ H) : PS X e t' := ⟨fun pins s σ H D I q => h.run pins s σ H D I (k D σ H q)⟩
theorem pss_imp {X : Cx} {e : List Stmt} {t t' : TS} (h : PSs X e t) (k : ∀ D σ H, t' D σ H → t D σ H) : PSs X e t' := ⟨fun pins s σ H D I q => h.run pins s σ H D I (k D σ H q)⟩

/-- a fresh mutable object is frozen -/
def tFz (t : TE) : TE := fun σ H Q => t σ H fun v H' => Q v H' ∨ ∃ a u, v = .ref a ∧ H' a = some u ∧ Mut (some u) ∧ ∀ o, Q v (upd H' a (.frz o u))
theorem pe_fz {X : Cx} {e : Expr} {t : TE} (h : PE X e t) : PE X e (tFz t) := ⟨fun pins s σ H Q I q => thn (h.run pins s σ H _ I q) fun v s1 ⟨x, H1, I1, r, q1⟩ => by
  rcases q1 with q1 | ⟨a, u, e, hu, mu, q1⟩
  · exact ⟨x, H1, I1, r, q1⟩
  · obtain ⟨od, I2⟩ := I1.lock hu mu
    exact ⟨x, _, I2, r, q1 od⟩⟩
theorem nfix_of {u v : HO} {H : Hp} {a : Addr} (h : H a = some u) (m : ¬ Fixed u) (e : H a = some v) : ¬ Fixed v := by
  rw [h] at e; cases e
  exact m
theorem Stable.upd {H : Hp} {a : Addr} {u w : HO} (h : H a = some u) (m : ¬ Fixed u) : Stable H (L2.upd H a w) := fun b v hb fx => by
  by_cases e : b = a
  · subst e; exact absurd fx (nfix_of h m hb)
  · rw [upd_ne e]; exact hb

section
variable {X : Cx} {G : Gh} {W : WX} {e a b : Expr} {pos : Pos}
/-- a list of its own as data: frozen -/
def lstM (f : M (List D)) : M D := bindM f fun ds => pureM (.lst ds)
theorem de_fz {f : M (List D)} (h : DO X G W e f) : DE X G W e (lstM f) := pe_imp (pe_fz h) fun σ H Q ⟨ρ, k, q⟩ => ⟨ρ, k, q.bind.mono fun ds ρ1 H1 _ s1 k1 q1 a vs ha hr hf => .inr ⟨a, _, rfl, ha, trivial, fun o => by
  have st : Stable H1 (upd H1 a (.frz o (.lst vs))) := Stable.upd ha id
  exact q1 _ st (k1.upd hf fun u hu => nfix_of ha id hu) _ (.lst (.inl ⟨o, upd_same⟩) (hr.st st))⟩⟩

/-! ### names, constants -/
theorem de_var (i : Nat) {x : Str} (hN : X.N[i]? = some x) (hv : Vis X.env.scope x := by first | exact .inl rfl | exact .inr (.inl rfl) | exact .inr (.inr rfl)) (hd : (x == ("__debug__" : Str)) = false := by decide) (hcd : (x == ("__classdict__" : Str)) = false := by decide) :
    DE X G W (.Name x pos) (getM i) := pe_imp (pe_var (i := i) hN hv hd hcd) fun σ H Q ⟨ρ, k, q⟩ => by
  unfold getM at q
  cases e : ρ[i]? with
  | none => rw [e] at q; exact q.elim
  | some sl =>
    rw [e] at q
    cases sl with
    | no => exact q.elim
    | cell xs => exact q.elim
    | exn xs => exact q.elim
    | d x =>
      obtain ⟨v, h1, h2⟩ := k.dat i x e
      exact ⟨v, h1, q H Stable.rfl k v h2⟩
theorem de_int {i j} : DE X G W (.Constant (.int i) j pos) (pureM (.int i)) := pe_imp pe_int fun σ H Q ⟨ρ, k, q⟩ => q H Stable.rfl k _ (.int i)
theorem de_bl {i j} : DE X G W (.Constant (.bool i) j pos) (pureM (.bl i)) := pe_imp pe_bl fun σ H Q ⟨ρ, k, q⟩ => q H Stable.rfl k _ (.bl i)
theorem de_non {j} : DE X G W (.Constant .none j pos) (pureM .non) := pe_imp pe_non fun σ H Q ⟨ρ, k, q⟩ => q H Stable.rfl k _ .non
theorem de_str {i j} : DE X G W (.Constant (.str i) j pos) (pureM (.str i)) := pe_imp pe_str fun σ H Q ⟨ρ, k, q⟩ => q H Stable.rfl k _ (.str i)
/-- a module's constant -/
theorem de_glob {x : Str} {v : V} {u : Value} {d : D} (hg : Gl X x) (hm : X.mg x = some u) (r : RelV v u) (rp : ∀ H, Rep G.m H v d) (hd : (x == ("__debug__" : Str)) = false := by decide) : DE X G W (.Name x pos) (pureM d) :=
  pe_imp (pe_glob hg hm r hd) fun σ H Q ⟨ρ, k, q⟩ => q H Stable.rfl k _ (rp H)

theorem de_globS {x z : Str} (hg : Gl X x) (hm : ∃ t, X.mg x = some (.str z t)) (hd : (x == ("__debug__" : Str)) = false := by decide) : DE X G W (.Name x pos) (pureM (.str z)) := by
  obtain ⟨t, h⟩ := hm
  exact de_glob (v := .str z) hg h ⟨t, rfl⟩ (fun _ => .str z) hd
theorem de_globI {x : Str} {z : Int} (hg : Gl X x) (hm : ∃ t, X.mg x = some (.int z t)) (hd : (x == ("__debug__" : Str)) = false := by decide) : DE X G W (.Name x pos) (pureM (.int z)) := by
  obtain ⟨t, h⟩ := hm
  exact de_glob (v := .int z) hg h ⟨t, rfl⟩ (fun _ => .int z) hd

/-! ### operators -/
def OpD (m : Md) (r : R2) (g : D → D → Option D) : Prop := ∀ (x y : V) (dx dy d : D) (H : Hp) (Q : VK), Rep m H x dx → Rep m H y dy → g dx dy = some d → (∀ v H', Grow H H' → Rep m H' v d → Q v H') → r x y H Q
def op2 (g : D → D → Option D) (fa fb : M D) : M D := bindM fa fun x => bindM fb fun y => liftM (g x y)
theorem op2_run {ta tb : TE} {r : R2} {g : D → D → Option D} {fa fb : M D} (hr : OpD G.m r g) (ia : ∀ σ H Q, dT G W fa σ H Q → ta σ H Q) (ib : ∀ σ H Q, dT G W fb σ H Q → tb σ H Q) {σ : L2.St} {H : Hp} {Q : VK} (h : dT G W (op2 g fa fb) σ H Q) : tOp r ta tb σ H Q := by
  obtain ⟨ρ, k, q⟩ := h
  refine ia _ _ _ ⟨ρ, k, q.bind.mono fun x ρ1 H1 _ s1 k1 q1 v rv => ?_⟩
  refine ib _ _ _ ⟨ρ1, k1, q1.bind.mono fun y ρ2 H2 _ s2 k2 q2 w rw' => ?_⟩
  obtain ⟨d, e, q3⟩ := q2.lift k2
  exact hr v w x y d H2 Q (rv.st s2) rw' e fun u H3 g3 r3 => q3 H3 g3.stable (k2.grow g3) u r3
theorem de_op {op : Operator} {r : R2} {g : D → D → Option D} {fa fb : M D} (ho : OpR X (binaryOp op) r) (hr : OpD G.m r g) (ha : DE X G W a fa) (hb : DE X G W b fb) : DE X G W (.BinOp a op b pos) (op2 g fa fb) :=
  pe_imp (pe_op ho ha hb) fun σ H Q h => op2_run hr (fun _ _ _ z => z) (fun _ _ _ z => z) h
theorem de_cmp {op : CmpOp} {r : R2} {g : D → D → Option D} {fa fb : M D} (ho : OpR X (compareOp op) r) (hr : OpD G.m r g) (ha : DE X G W a fa) (hb : DE X G W b fb) (hm : behindInMarks op b = false) : DE X G W (.Compare a [op] [b] pos) (op2 g fa fb) :=
  pe_imp (pe_cmpR ho ha hb hm) fun σ H Q h => op2_run hr (fun _ _ _ z => z) (fun _ _ _ z => z) h
theorem de_ix {r : R2} {g : D → D → Option D} {fa fb : M D} (ho : IxR X r) (hr : OpD G.m r g) (ha : DE X G W a fa) (hb : DE X G W b fb) (hs : PlainIx b := by exact fun _ _ => rfl) : DE X G W (.Subscript a b pos) (op2 g fa fb) :=
  pe_imp (pe_ix ho ha hb hs) fun σ H Q h => op2_run hr (fun _ _ _ z => z) (fun _ _ _ z => z) h
def boolM (f : M D) : M Bool := bindM f fun d => match d with
  | .bl b => pureM b
  | _ => stuckM
/-- a value that is True or False, as a test -/
theorem dt_val {f : M D} (h : DE X G W e f) (he : ∀ whole, isTrue e X.env whole = (do let v ← whole; standAt e.pos; holding [v] (truthy v)) := by intro _; rfl) : DT X G W e (boolM f) :=
  pt_imp (pt_val h he) fun σ H Q ⟨ρ, k, q⟩ => ⟨ρ, k, q.bind.mono fun d ρ1 H1 _ s1 k1 q1 v r => by
    cases r with
    | bl b => exact ⟨b, rfl, q1 H1 Stable.rfl k1⟩
    | _ => exact q1.elim⟩
theorem dt_cmp {op : CmpOp} {r : R2} {g : D → D → Option D} {fa fb : M D} (ho : OpR X (compareOp op) r) (hr : OpD G.m r g) (ha : DE X G W a fa) (hb : DE X G W b fb) (hm : behindInMarks op b = false) : DT X G W (.Compare a [op] [b] pos) (boolM (op2 g fa fb)) :=
  pt_imp (pt_cmpR ho ha hb hm) fun σ H Q ⟨ρ, k, q⟩ => op2_run hr (fun _ _ _ z => z) (fun _ _ _ z => z) ⟨ρ, k, q.bind.mono fun d ρ1 H1 _ s1 k1 q1 v r => by
    cases r with
    | bl b => exact ⟨b, rfl, q1 H1 Stable.rfl k1⟩
    | _ => exact q1.elim⟩
/-! ### and, or, not -/
def DW (X : Cx) (G : Gh) (W : WX) (e : Expr) (f : M Bool) : Prop := PW X e (tT G W f)
def andM (f g : M Bool) : M Bool := bindM f fun b => match b with
  | true => g
  | false => pureM false
def orM (f g : M Bool) : M Bool := bindM f fun b => match b with
  | true => pureM true
  | false => g
def notM (f : M Bool) : M Bool := bindM f fun b => pureM (!b)
theorem dw_and1 {f : M Bool} (h : DT X G W a f) : DW X G W (.BoolOp .And [a] pos) f := pw_and1 h
theorem dw_or1 {f : M Bool} (h : DT X G W a f) : DW X G W (.BoolOp .Or [a] pos) f := pw_or1 h
theorem dw_and {rest : List Expr} {f g : M Bool} (ha : DT X G W a f) (hb : DW X G W (.BoolOp .And (b :: rest) pos) g) : DW X G W (.BoolOp .And (a :: b :: rest) pos) (andM f g) :=
  pw_imp (pw_and ha hb) fun σ H Q ⟨ρ, k, q⟩ => ⟨ρ, k, q.bind.mono fun c ρ1 H1 _ s1 k1 q1 => by
    cases c with
    | true => rw [if_pos rfl]; exact ⟨ρ1, k1, q1⟩
    | false => rw [if_neg (by decide)]; exact q1 H1 Stable.rfl k1⟩
theorem dw_or {rest : List Expr} {f g : M Bool} (ha : DT X G W a f) (hb : DW X G W (.BoolOp .Or (b :: rest) pos) g) : DW X G W (.BoolOp .Or (a :: b :: rest) pos) (orM f g) :=
  pw_imp (pw_or ha hb) fun σ H Q ⟨ρ, k, q⟩ => ⟨ρ, k, q.bind.mono fun c ρ1 H1 _ s1 k1 q1 => by
    cases c with
    | true => rw [if_pos rfl]; exact q1 H1 Stable.rfl k1
    | false => rw [if_neg (by decide)]; exact ⟨ρ1, k1, q1⟩⟩
theorem dt_w {f : M Bool} (h : DW X G W e f) : DT X G W e f := h.pt
theorem dt_not {f : M Bool} (h : DT X G W a f) : DT X G W (.UnaryOp .Not a pos) (notM f) :=
  pt_imp (pt_not h) fun σ H Q ⟨ρ, k, q⟩ => ⟨ρ, k, q.bind.mono fun c ρ1 H1 _ s1 k1 q1 => q1 H1 Stable.rfl k1⟩
/-- values -/
def andV (f g : M D) : M D := bindM f fun b => match b with
  | .bl true => g
  | .bl false => pureM (.bl false)
  | _ => stuckM
def orV (f g : M D) : M D := bindM f fun b => match b with
  | .bl true => pureM (.bl true)
  | .bl false => g
  | _ => stuckM
def notV (f : M D) : M D := bindM f fun b => match b with
  | .bl b => pureM (.bl (!b))
  | _ => stuckM
theorem de_one {op} {f : M D} (h : DE X G W a f) : DE X G W (.BoolOp op [a] pos) f := pe_one h
theorem de_and {rest : List Expr} {f g : M D} (ha : DE X G W a f) (hb : DE X G W (.BoolOp .And (b :: rest) pos) g) : DE X G W (.BoolOp .And (a :: b :: rest) pos) (andV f g) :=
  pe_imp (pe_and ha hb) fun σ H Q ⟨ρ, k, q⟩ => ⟨ρ, k, q.bind.mono fun c ρ1 H1 _ s1 k1 q1 v r => by
    cases r with
    | bl b =>
      refine ⟨b, rfl, ?_⟩
      cases b with
      | true => rw [if_pos rfl]; exact ⟨ρ1, k1, q1⟩
      | false => rw [if_neg (by decide)]; exact q1 H1 Stable.rfl k1 _ (.bl false)
    | _ => exact q1.elim⟩
theorem de_or {rest : List Expr} {f g : M D} (ha : DE X G W a f) (hb : DE X G W (.BoolOp .Or (b :: rest) pos) g) : DE X G W (.BoolOp .Or (a :: b :: rest) pos) (orV f g) :=
  pe_imp (pe_or ha hb) fun σ H Q ⟨ρ, k, q⟩ => ⟨ρ, k, q.bind.mono fun c ρ1 H1 _ s1 k1 q1 v r => by
    cases r with
    | bl b =>
      refine ⟨b, rfl, ?_⟩
      cases b with
      | true => rw [if_pos rfl]; exact q1 H1 Stable.rfl k1 _ (.bl true)
      | false => rw [if_neg (by decide)]; exact ⟨ρ1, k1, q1⟩
    | _ => exact q1.elim⟩
def iteM {α : Type} (c : M Bool) (f g : M α) : M α := bindM c fun b => match b with
  | true => f
  | false => g
theorem de_if {c : Expr} {t : M Bool} {f g : M D} (hc : DT X G W c t) (ha : DE X G W a f) (hb : DE X G W b g) : DE X G W (.IfExp c a b pos) (iteM t f g) :=
  pe_imp (pe_ifExp hc ha hb) fun σ H Q ⟨ρ, k, q⟩ => ⟨ρ, k, q.bind.mono fun c ρ1 H1 _ s1 k1 q1 => by
    cases c with
    | true => rw [if_pos rfl]; exact ⟨ρ1, k1, q1⟩
    | false => rw [if_neg (by decide)]; exact ⟨ρ1, k1, q1⟩⟩
/-- x is None -/
def isNb : D → Bool
  | .non => true
  | _ => false
def isN (f : M D) : M D := bindM f fun d => pureM (.bl (isNb d))
def notN (f : M D) : M D := bindM f fun d => pureM (.bl (!isNb d))
theorem Rep.isN {m : Md} {H : Hp} {v : V} {d : D} (r : Rep m H v d) : decide (v = V.non) = isNb d := by
  cases r <;> simp [isNb]
theorem de_isN {j pos'} {f : M D} (h : DE X G W a f) : DE X G W (.Compare a [.Is] [.Constant .none j pos'] pos) (isN f) :=
  pe_imp (pe_cmp (pc_isN h)) fun σ H Q ⟨ρ, k, q⟩ => ⟨ρ, k, q.bind.mono fun c ρ1 H1 _ s1 k1 q1 v r => by
    show Q (.bl (decide (v = .non))) H1
    rw [r.isN]; exact q1 H1 Stable.rfl k1 _ (.bl _)⟩
theorem dt_isN {j pos'} {f : M D} (h : DE X G W a f) : DT X G W (.Compare a [.Is] [.Constant .none j pos'] pos) (boolM (isN f)) :=
  pt_imp (pt_cmp (pc_isN h)) fun σ H Q ⟨ρ, k, q⟩ => ⟨ρ, k, q.bind.bind.mono fun c ρ1 H1 _ s1 k1 q1 v r => by
    refine ⟨_, rfl, ?_⟩
    rw [r.isN]; exact q1 H1 Stable.rfl k1 H1 Stable.rfl k1⟩
theorem dt_notN {j pos'} {f : M D} (h : DE X G W a f) : DT X G W (.Compare a [.IsNot] [.Constant .none j pos'] pos) (boolM (notN f)) :=
  pt_imp (pt_cmp (pc_notN h)) fun σ H Q ⟨ρ, k, q⟩ => ⟨ρ, k, q.bind.bind.mono fun c ρ1 H1 _ s1 k1 q1 v r => by
    refine ⟨_, rfl, ?_⟩
    rw [r.isN]; exact q1 H1 Stable.rfl k1 H1 Stable.rfl k1⟩

/-! ### arguments, displays -/
theorem da_nil : DA X G W [] (pureM []) := pa_imp pa_nil fun σ H Q ⟨ρ, k, q⟩ => q H Stable.rfl k _ .nil
def consM (f : M D) (g : M (List D)) : M (List D) := bindM f fun x => bindM g fun xs => pureM (x :: xs)
theorem da_cons {es : List Expr} {f : M D} {g : M (List D)} (ha : DE X G W e f) (hr : DA X G W es g) (hs : starEach (e :: es) X.env = (false, eval e X.env) :: starEach es X.env := by rfl) : DA X G W (e :: es) (consM f g) :=
  pa_imp (pa_cons ha hr hs) fun σ H Q ⟨ρ, k, q⟩ => ⟨ρ, k, q.bind.mono fun x ρ1 H1 _ s1 k1 q1 v r => ⟨ρ1, k1, q1.bind.mono fun xs ρ2 H2 _ s2 k2 q2 vs rs => q2 H2 Stable.rfl k2 _ (.cons (r.st s2) rs)⟩⟩
def sizeM (f : M (List D)) : M (List D) := bindM f fun xs => if xs.length ≤ sizeLine then pureM xs else stuckM
theorem do_lst {es : List Expr} {f : M (List D)} (h : DA X G W es f) : DO X G W (.List es pos) (sizeM f) :=
  pe_imp (pe_lst h) fun σ H Q ⟨ρ, k, q⟩ => ⟨ρ, k, q.bind.mono fun xs ρ1 H1 _ s1 k1 q1 vs r => by
    by_cases hz : xs.length ≤ sizeLine
    · rw [if_pos hz] at q1
      refine ⟨by rw [r.len]; exact hz, fun p hp => ?_⟩
      have g := Grow.new (o := .lst vs) hp
      exact q1 _ g.stable (k1.grow g) p vs upd_same (r.st g.stable) (k1.fresh hp)
    · rw [if_neg hz] at q1; exact q1.elim⟩
def tupM (f : M (List D)) : M D := bindM (sizeM f) fun xs => pureM (.tup xs)
theorem de_tup {x1} {es : List Expr} {f : M (List D)} (h : DA X G W es f) : DE X G W (.Tuple es x1 pos) (tupM f) :=
  pe_imp (pe_tup h) fun σ H Q ⟨ρ, k, q⟩ => ⟨ρ, k, q.bind.bind.mono fun xs ρ1 H1 _ s1 k1 q1 vs r => by
    by_cases hz : xs.length ≤ sizeLine
    · rw [if_pos hz] at q1
      refine ⟨by rw [r.len]; exact hz, fun p hp => ?_⟩
      have g := Grow.new (o := .tup vs) hp
      exact q1 H1 Stable.rfl k1 _ g.stable (k1.grow g) _ (.tup (SqT.of upd_same) (r.st g.stable))
    · rw [if_neg hz] at q1; exact q1.elim⟩

/-! ### calls of builtins -/
def CallD (m : Md) (r : List V → Hp → VK → Prop) (g : List D → Option D) : Prop := ∀ (vs : List V) (ds : List D) (d : D) (H : Hp) (Q : VK), RepL m H vs ds → g ds = some d → (∀ v H', Grow H H' → Rep m H' v d → Q v H') → r vs H Q
def CallO (m : Md) (r : List V → Hp → VK → Prop) (g : List D → Option (List D)) : Prop := ∀ (vs : List V) (ds d : List D) (H : Hp) (Q : VK), RepL m H vs ds → g ds = some d → (∀ p ws H', Grow H H' → H p = none → H' p = some (.lst ws) → RepL m H' ws d → Q (.ref p) H') → r vs H Q
def callD (g : List D → Option D) (f : M (List D)) : M D := bindM f fun xs => liftM (g xs)
def callO (g : List D → Option (List D)) (f : M (List D)) : M (List D) := bindM f fun xs => liftM (g xs)
theorem callD_run {t : TA} {r : List V → Hp → VK → Prop} {g : List D → Option D} {f : M (List D)} (hr : CallD G.m r g) (ia : ∀ σ H Q, aT G W f σ H Q → t σ H Q) {σ : L2.St} {H : Hp} {Q : VK} (h : dT G W (callD g f) σ H Q) : tCB r t σ H Q := by
  obtain ⟨ρ, k, q⟩ := h
  refine ia _ _ _ ⟨ρ, k, q.bind.mono fun xs ρ1 H1 _ s1 k1 q1 vs rv => ?_⟩
  obtain ⟨d, e, q3⟩ := q1.lift k1
  exact hr vs xs d H1 Q rv e fun u H3 g3 r3 => q3 H3 g3.stable (k1.grow g3) u r3
theorem callO_run {t : TA} {r : List V → Hp → VK → Prop} {g : List D → Option (List D)} {f : M (List D)} (hr : CallO G.m r g) (ia : ∀ σ H Q, aT G W f σ H Q → t σ H Q) {σ : L2.St} {H : Hp} {Q : VK} (h : oT G W (callO g f) σ H Q) : tCB r t σ H Q := by
  obtain ⟨ρ, k, q⟩ := h
  refine ia _ _ _ ⟨ρ, k, q.bind.mono fun xs ρ1 H1 _ s1 k1 q1 vs rv => ?_⟩
  obtain ⟨d, e, q3⟩ := q1.lift k1
  exact hr vs xs d H1 Q rv e fun p ws H3 g3 hp h3 r3 => q3 H3 g3.stable (k1.grow g3) p ws h3 r3 (k1.fresh hp)
variable {x : Str} {p : Pos} {es : List Expr} {id T : String}
theorem de_callB {r : List V → Hp → VK → Prop} {g : List D → Option D} {f : M (List D)} (hc : CallR X (.builtin id) r) (hr : CallD G.m r g) (hg : Gl X x) (hm : X.mg x = none) (hv : bootBuiltins x = some (.builtin id)) (ha : DA X G W (e :: es) f) (hn : x ≠ "__name__" := by decide) (hdb : (x == ("__debug__" : Str)) = false := by decide)
    (he : starEach (e :: es) X.env = (false, eval e X.env) :: starEach es X.env := by rfl) (hpl : (backTo pos (starEach es X.env)).any (·.1) = false := by rfl) : DE X G W (.Call (.Name x p) (e :: es) [] pos) (callD g f) :=
  pe_imp (pe_callB hc hg hm hv ha hn hdb he hpl) fun σ H Q h => callD_run hr (fun _ _ _ z => z) h
theorem de_callTy {r : List V → Hp → VK → Prop} {g : List D → Option D} {f : M (List D)} (hc : CallR X (.type T) r) (hr : CallD G.m r g) (hg : Gl X x) (hm : X.mg x = none) (hv : bootBuiltins x = some (.type T)) (ha : DA X G W (e :: es) f) (hn : x ≠ "__name__" := by decide) (hdb : (x == ("__debug__" : Str)) = false := by decide)
    (he : starEach (e :: es) X.env = (false, eval e X.env) :: starEach es X.env := by rfl) (hpl : (backTo pos (starEach es X.env)).any (·.1) = false := by rfl) : DE X G W (.Call (.Name x p) (e :: es) [] pos) (callD g f) :=
  pe_imp (pe_callTy hc hg hm hv ha hn hdb he hpl) fun σ H Q h => callD_run hr (fun _ _ _ z => z) h
theorem do_callB {r : List V → Hp → VK → Prop} {g : List D → Option (List D)} {f : M (List D)} (hc : CallR X (.builtin id) r) (hr : CallO G.m r g) (hg : Gl X x) (hm : X.mg x = none) (hv : bootBuiltins x = some (.builtin id)) (ha : DA X G W (e :: es) f) (hn : x ≠ "__name__" := by decide) (hdb : (x == ("__debug__" : Str)) = false := by decide)
    (he : starEach (e :: es) X.env = (false, eval e X.env) :: starEach es X.env := by rfl) (hpl : (backTo pos (starEach es X.env)).any (·.1) = false := by rfl) : DO X G W (.Call (.Name x p) (e :: es) [] pos) (callO g f) :=
  pe_imp (pe_callB hc hg hm hv ha hn hdb he hpl) fun σ H Q h => callO_run hr (fun _ _ _ z => z) h
theorem do_callTy {r : List V → Hp → VK → Prop} {g : List D → Option (List D)} {f : M (List D)} (hc : CallR X (.type T) r) (hr : CallO G.m r g) (hg : Gl X x) (hm : X.mg x = none) (hv : bootBuiltins x = some (.type T)) (ha : DA X G W (e :: es) f) (hn : x ≠ "__name__" := by decide) (hdb : (x == ("__debug__" : Str)) = false := by decide)
    (he : starEach (e :: es) X.env = (false, eval e X.env) :: starEach es X.env := by rfl) (hpl : (backTo pos (starEach es X.env)).any (·.1) = false := by rfl) : DO X G W (.Call (.Name x p) (e :: es) [] pos) (callO g f) :=
  pe_imp (pe_callTy hc hg hm hv ha hn hdb he hpl) fun σ H Q h => callO_run hr (fun _ _ _ z => z) h
end
end DL
end
section
namespace DL
open PySem PySem.Spec L2
open PyProof.Rows hiding St

/-! ### stores into the slots -/
section
variable {G : Gh} {σ : L2.St} {H H' : Hp} {ρ : Env} {a p : Addr} {o : HO}
theorem set_get {α : Type} {l : List α} {i j : Nat} {x y : α} (h : (l.set i x)[j]? = some y) : (i = j ∧ y = x ∧ i < l.length) ∨ (i ≠ j ∧ l[j]? = some y) := by
  by_cases e : i = j
  · subst e
    rw [List.getElem?_set_self'] at h
    cases q : l[i]? with
    | none => rw [q] at h; simp at h
    | some z =>
      rw [q] at h; simp at h
      exact .inl ⟨rfl, h.symm, (List.getElem?_eq_some_iff.mp q).1⟩
  · rw [List.getElem?_set_ne e] at h
    exact .inr ⟨e, h⟩
/-- slot i is stored; the rest stands -/
theorem StOk.setD (k : StOk G σ H ρ) {i : Nat} {v : V} {d : D} (hp : ∀ p ∈ G.pr, p.1 ≠ i) (r : Rep G.m H v d) : StOk G (σ.set i (some v)) H (ρ.set i (.d d)) where
  len := by simp [k.len]
  dat := fun j x h => by
    rcases set_get h with ⟨e, e2, hl⟩ | ⟨e, h⟩
    · subst e; cases e2
      exact ⟨v, by rw [List.getElem?_set_self (by rw [k.len]; exact hl)], r⟩
    · obtain ⟨w, h1, h2⟩ := k.dat j x h
      exact ⟨w, by rw [List.getElem?_set_ne e]; exact h1, h2⟩
  own := fun j xs h => by
    rcases set_get h with ⟨e, e2, hl⟩ | ⟨e, h⟩
    · cases e2
    · obtain ⟨b, vs, h1, h2⟩ := k.own j xs h
      exact ⟨b, vs, by rw [List.getElem?_set_ne e]; exact h1, h2⟩
  sep := fun j l xs ys b ne h1 h2 h3 => by
    rcases set_get h1 with ⟨e, e2, hl⟩ | ⟨e, h1⟩
    · cases e2
    rcases set_get h2 with ⟨e', e2, hl⟩ | ⟨e', h2⟩
    · cases e2
    rw [List.getElem?_set_ne e] at h3
    rw [List.getElem?_set_ne e']
    exact k.sep j l xs ys b ne h1 h2 h3
  prot := fun p hm => by
    obtain ⟨h1, xs, h2⟩ := k.prot p hm
    have ne : i ≠ p.1 := fun e => hp p hm e.symm
    exact ⟨by rw [List.getElem?_set_ne ne]; exact h1, xs, by rw [List.getElem?_set_ne ne]; exact h2⟩
  keep := k.keep
  exn := fun j c h => by
    rcases set_get h with ⟨e, e2, hl⟩ | ⟨e, h⟩
    · cases e2
    · obtain ⟨b, h1, h2⟩ := k.exn j c h
      exact ⟨b, h1, by rw [List.getElem?_set_ne e]; exact h2⟩
theorem StOk.setC (k : StOk G σ H ρ) {i : Nat} {vs : HO} {ds : OC} (hp : ∀ p ∈ G.pr, p.1 ≠ i) (ha : H a = some vs) (r : RepO G.m H a vs ds) (f : Fresh G σ ρ a) : StOk G (σ.set i (some (.ref a))) H (ρ.set i (.cell ds)) where
  len := by simp [k.len]
  dat := fun j x h => by
    rcases set_get h with ⟨e, e2, hl⟩ | ⟨e, h⟩
    · cases e2
    · obtain ⟨w, h1, h2⟩ := k.dat j x h
      exact ⟨w, by rw [List.getElem?_set_ne e]; exact h1, h2⟩
  own := fun j xs h => by
    rcases set_get h with ⟨e, e2, hl⟩ | ⟨e, h⟩
    · subst e; cases e2
      exact ⟨a, vs, by rw [List.getElem?_set_self (by rw [k.len]; exact hl)], ha, r, fun _ => ⟨f.1, f.2.1⟩⟩
    · obtain ⟨b, vs, h1, h2⟩ := k.own j xs h
      exact ⟨b, vs, by rw [List.getElem?_set_ne e]; exact h1, h2⟩
  sep := fun j l xs ys b ne h1 h2 h3 => by
    rcases set_get h1 with ⟨e, e2, hl⟩ | ⟨e, h1⟩
    · subst e; cases e2
      rw [List.getElem?_set_self (by rw [k.len]; exact hl)] at h3
      injection h3 with h3; injection h3 with h3; injection h3 with h3
      subst h3
      rcases set_get h2 with ⟨e', e2, hl⟩ | ⟨e', h2⟩
      · exact absurd e' ne
      · rw [List.getElem?_set_ne e']
        exact f.2.2 l ys h2
    · rw [List.getElem?_set_ne e] at h3
      rcases set_get h2 with ⟨e', e2, hl⟩ | ⟨e', h2⟩
      · subst e'; cases e2
        rw [List.getElem?_set_self (by rw [k.len]; exact hl)]
        intro h4
        injection h4 with h4; injection h4 with h4; injection h4 with h4
        subst h4
        exact f.2.2 j xs h1 h3
      · rw [List.getElem?_set_ne e']
        exact k.sep j l xs ys b ne h1 h2 h3
  prot := fun p hm => by
    obtain ⟨h1, xs, h2⟩ := k.prot p hm
    have ne : i ≠ p.1 := fun e => hp p hm e.symm
    exact ⟨by rw [List.getElem?_set_ne ne]; exact h1, xs, by rw [List.getElem?_set_ne ne]; exact h2⟩
  keep := k.keep
  exn := fun j c h => by
    rcases set_get h with ⟨e, e2, hl⟩ | ⟨e, h⟩
    · cases e2
    · obtain ⟨b, h1, h2⟩ := k.exn j c h
      exact ⟨b, h1, by rw [List.getElem?_set_ne e]; exact h2⟩
/-- an own list's content is written -/
theorem StOk.wroteC (k : StOk G σ H ρ) {i : Nat} {xs : OC} {vs : HO} {ds : OC} (hi : ρ[i]? = some (.cell xs)) (ha : σ[i]? = some (some (.ref a))) (r : RepO G.m H a vs ds) : StOk G σ (L2.upd H a vs) (ρ.set i (.cell ds)) := by
  obtain ⟨a', vs0, h1, h2, h3, h4⟩ := k.own i xs hi
  rw [ha] at h1; injection h1 with h1; injection h1 with h1; injection h1 with h1
  subst h1
  have st : Stable H (L2.upd H a vs) := fun b u hb fx => by
    by_cases e : b = a
    · subst e; rw [h2] at hb; cases hb; exact absurd fx h3.nf
    · rw [upd_ne e]; exact hb
  have hl : i < ρ.length := (List.getElem?_eq_some_iff.mp hi).1
  refine ⟨by simp [k.len], fun j x h => ?_, fun j ys h => ?_, fun j l ys zs b ne e1 e2 e3 => ?_, fun p hm => ?_, fun b u e1 e2 => ?_, fun j c h => ?_⟩
  · rcases set_get h with ⟨e, e2, hl⟩ | ⟨e, h⟩
    · cases e2
    · obtain ⟨w, q1, q2⟩ := k.dat j x h
      exact ⟨w, q1, q2.st st⟩
  · rcases set_get h with ⟨e, e2, hl⟩ | ⟨e, h⟩
    · subst e; cases e2
      exact ⟨a, vs, ha, upd_same, r.st st, h4⟩
    · obtain ⟨b, ws, q1, q2, q3, q4⟩ := k.own j ys h
      refine ⟨b, ws, q1, ?_, q3.st st, q4⟩
      rw [upd_ne]
      · exact q2
      · intro z; subst z
        exact k.sep i j xs ys b e hi h ha q1
  · have o1 : ∃ us, ρ[j]? = some (.cell us) := by
      rcases set_get e1 with ⟨e, _, _⟩ | ⟨_, h⟩
      · subst e; exact ⟨xs, hi⟩
      · exact ⟨_, h⟩
    have o2 : ∃ us, ρ[l]? = some (.cell us) := by
      rcases set_get e2 with ⟨e, _, _⟩ | ⟨_, h⟩
      · subst e; exact ⟨xs, hi⟩
      · exact ⟨_, h⟩
    obtain ⟨u1, o1⟩ := o1
    obtain ⟨u2, o2⟩ := o2
    exact k.sep j l u1 u2 b ne o1 o2 e3
  · obtain ⟨q1, ys, q2⟩ := k.prot p hm
    refine ⟨q1, ?_⟩
    by_cases e : i = p.1
    · exact ⟨ds, by rw [← e, List.getElem?_set_self hl]⟩
    · exact ⟨ys, by rw [List.getElem?_set_ne e]; exact q2⟩
  · have : b ≠ a := by
      intro z; subst z
      by_cases c : ∀ p ∈ G.pr, p.1 ≠ i
      · have q := (h4 c).1
        rw [e1] at q; cases q
      · apply c
        intro p hp z
        obtain ⟨q1, _⟩ := k.prot p hp
        rw [z, ha] at q1
        injection q1 with q1; injection q1 with q1; injection q1 with q1
        exact e2 p hp q1.symm
    rw [upd_ne this]; exact k.keep b u e1 e2
  · rcases set_get h with ⟨e, e2, hl⟩ | ⟨e, h⟩
    · cases e2
    · exact k.exn j c h
/-- an own slot becomes data: its list is frozen -/
theorem StOk.frozeC (k : StOk G σ H ρ) {i : Nat} {xs : OC} {vs : HO} {d : D} {ob : Obj} (hp : ∀ p ∈ G.pr, p.1 ≠ i) (hi : ρ[i]? = some (.cell xs)) (ha : σ[i]? = some (some (.ref a))) (hv : H a = some vs) (r : RepO G.m H a vs xs) (rd : Rep G.m (L2.upd H a (.frz ob vs)) (.ref a) d) : StOk G σ (L2.upd H a (.frz ob vs)) (ρ.set i (.d d)) := by
  obtain ⟨a', vs0, h1, h2, h3, h4⟩ := k.own i xs hi
  rw [ha] at h1; injection h1 with h1; injection h1 with h1; injection h1 with h1
  subst h1
  have st : Stable H (L2.upd H a (.frz ob vs)) := Stable.upd hv r.nf
  have hl : i < ρ.length := (List.getElem?_eq_some_iff.mp hi).1
  refine ⟨by simp [k.len], fun j x h => ?_, fun j ys h => ?_, fun j l ys zs b ne e1 e2 e3 => ?_, fun p hm => ?_, fun b u e1 e2 => ?_, fun j c h => ?_⟩
  · rcases set_get h with ⟨e, e2, hl⟩ | ⟨e, h⟩
    · subst e; cases e2
      exact ⟨_, ha, rd⟩
    · obtain ⟨w, q1, q2⟩ := k.dat j x h
      exact ⟨w, q1, q2.st st⟩
  · rcases set_get h with ⟨e, e2, hl⟩ | ⟨e, h⟩
    · cases e2
    · obtain ⟨b, ws, q1, q2, q3, q4⟩ := k.own j ys h
      refine ⟨b, ws, q1, ?_, q3.st st, q4⟩
      rw [upd_ne]
      · exact q2
      · intro z; subst z
        exact k.sep i j xs ys b e hi h ha q1
  · rcases set_get e1 with ⟨e, q, _⟩ | ⟨_, g1⟩
    · cases q
    rcases set_get e2 with ⟨e, q, _⟩ | ⟨_, g2⟩
    · cases q
    exact k.sep j l ys zs b ne g1 g2 e3
  · obtain ⟨q1, ys, q2⟩ := k.prot p hm
    have e : i ≠ p.1 := fun z => hp p hm z.symm
    exact ⟨q1, ys, by rw [List.getElem?_set_ne e]; exact q2⟩
  · have : b ≠ a := by
      intro z; subst z
      have q := (h4 hp).1
      rw [e1] at q; cases q
    rw [upd_ne this]; exact k.keep b u e1 e2
  · rcases set_get h with ⟨e, e2, hl⟩ | ⟨e, h⟩
    · cases e2
    · exact k.exn j c h
theorem StOk.setO (k : StOk G σ H ρ) {i : Nat} {vs : List V} {ds : List D} (hp : ∀ p ∈ G.pr, p.1 ≠ i) (ha : H a = some (.lst vs)) (r : RepL G.m H vs ds) (f : Fresh G σ ρ a) : StOk G (σ.set i (some (.ref a))) H (ρ.set i (.own ds)) := k.setC hp ha ⟨vs, rfl, r⟩ f
theorem StOk.wrote (k : StOk G σ H ρ) {i : Nat} {xs : List D} {vs : List V} {ds : List D} (hi : ρ[i]? = some (.own xs)) (ha : σ[i]? = some (some (.ref a))) (r : RepL G.m H vs ds) : StOk G σ (L2.upd H a (.lst vs)) (ρ.set i (.own ds)) := k.wroteC hi ha ⟨vs, rfl, r⟩
/-- an own list -/
theorem StOk.ownL (k : StOk G σ H ρ) (i : Nat) (xs : List D) (h : ρ[i]? = some (.own xs)) : ∃ a vs, σ[i]? = some (some (.ref a)) ∧ H a = some (.lst vs) ∧ RepL G.m H vs xs ∧ ((∀ p ∈ G.pr, p.1 ≠ i) → G.H0 a = none ∧ ∀ p ∈ G.pr, p.2 ≠ a) := by
  obtain ⟨a, o, h1, h2, ⟨vs, rfl, h3⟩, h4⟩ := k.own i _ h
  exact ⟨a, vs, h1, h2, h3, h4⟩
end

/-! ### own lists in expressions -/
section
variable {X : Cx} {G : Gh} {W : WX} {e a b : Expr} {pos : Pos}
theorem getO_run {i : Nat} {ρ : Env} {σ : L2.St} {H : Hp} {β : Type} {k : List D → M β} {Q : β → Env → Hp → Prop} (h : postG G W σ H (bindM (getO i) k ρ) Q) : ∃ xs, ρ[i]? = some (.own xs) ∧ postG G W σ H (k xs ρ) Q := by
  unfold bindM at h
  cases e : ρ[i]? with
  | none =>
    have e2 : getO i ρ = .stuck := by unfold getO; rw [e]
    rw [e2] at h; exact h.elim
  | some sl =>
    match sl, e with
    | .cell (.l xs), e =>
      have e2 : getO i ρ = .ok xs ρ := by unfold getO; rw [e]
      rw [e2] at h; exact ⟨xs, rfl, h⟩
    | .cell (.k _ _), e =>
      have e2 : getO i ρ = .stuck := by unfold getO; rw [e]
      rw [e2] at h; exact h.elim
    | .no, e =>
      have e2 : getO i ρ = .stuck := by unfold getO; rw [e]
      rw [e2] at h; exact h.elim
    | .d _, e =>
      have e2 : getO i ρ = .stuck := by unfold getO; rw [e]
      rw [e2] at h; exact h.elim
    | .exn _, e =>
      have e2 : getO i ρ = .stuck := by unfold getO; rw [e]
      rw [e2] at h; exact h.elim
def pfree (G : Gh) (i : Nat) : Prop := ∀ p ∈ G.pr, p.1 ≠ i
/-- the slot's data; an own list is frozen -/
def ocD : OC → D
  | .l xs => .lst xs
  | .k ks vs => .dic ks vs
theorem RepO.data {m : Md} {H : Hp} {a : Addr} {o : HO} {ob : Obj} (e : H a = some o) : ∀ {c : OC}, RepO m H a o c → Rep m (upd H a (.frz ob o)) (.ref a) (ocD c)
  | .l _, ⟨vs, q, r⟩ => by subst q; exact .lst (.inl ⟨ob, upd_same⟩) (r.st (Stable.upd e id))
  | .k _ _, .inl ⟨kvs, q, q2, r⟩ => by subst q; subst q2; exact .dicK upd_same (r.st (Stable.upd e id))
  | .k _ _, .inr ⟨kvs, q, n, q2, r1, r2⟩ => by subst q; exact .dicN upd_same n q2 (r1.st (Stable.upd e id)) (r2.st (Stable.upd e id))
def rdM (i : Nat) : M D := fun ρ => match ρ[i]? with
  | some (.d x) => .ok x ρ
  | some (.cell c) => .ok (ocD c) (ρ.set i (.d (ocD c)))
  | _ => .stuck
theorem de_rd (i : Nat) {x : Str} (hp : pfree G i) (hN : X.N[i]? = some x) (hv : Vis X.env.scope x := by first | exact .inl rfl | exact .inr (.inl rfl) | exact .inr (.inr rfl)) (hd : (x == ("__debug__" : Str)) = false := by decide) (hcd : (x == ("__classdict__" : Str)) = false := by decide) :
    DE X G W (.Name x pos) (rdM i) := pe_imp (pe_fz (pe_var (i := i) hN hv hd hcd)) fun σ H Q ⟨ρ, k, q⟩ => by
  unfold rdM at q
  cases e : ρ[i]? with
  | none => simp only [e] at q; exact q.elim
  | some sl =>
    cases sl with
    | no => simp only [e] at q; exact q.elim
    | exn c => simp only [e] at q; exact q.elim
    | d y =>
      simp only [e] at q
      obtain ⟨v, h1, h2⟩ := k.dat i y e
      exact ⟨v, h1, .inl (q H Stable.rfl k v h2)⟩
    | cell c =>
      simp only [e] at q
      obtain ⟨a, u, h1, h2, h3, h4⟩ := k.own i c e
      refine ⟨_, h1, .inr ⟨a, _, rfl, h2, h3.mt, fun o => ?_⟩⟩
      have st : Stable H (upd H a (.frz o u)) := Stable.upd h2 h3.nf
      have rd := h3.data (ob := o) h2
      exact q _ st (k.frozeC hp e h1 h2 h3 rd) _ rd
/-- the own list in slot i is handed on as a list of its own (a return) -/
def giveM (i : Nat) : M (List D) := bindM (getO i) fun xs => fun ρ => .ok xs (ρ.set i .no)
def opO (i : Nat) (g : List D → D → Option D) (fb : M D) : M D := bindM fb fun y => bindM (getO i) fun xs => liftM (g xs y)
end
end DL
end
section
namespace DL
open PySem PySem.Spec L2
open PyProof.Rows hiding St

/-! ### statements -/
/-- data that may be a container of the def's own -/
def conOf : D → Option OC
  | .lst xs => some (.l xs)
  | .dic ks vs => some (.k ks vs)
  | _ => none
/-- what a def tells: data, a container of its own, a tuple whose last is one -/
inductive RM where
  | f | o | t
abbrev RM.b : RM → Bool
  | .f => false
  | _ => true
def splitT : D → Option (List D × OC)
  | .tup ds => match ds.getLast? with
    | some e => (conOf e).map fun c => (ds.dropLast, c)
    | none => none
  | _ => none
def TupOk (m : Md) (H : Hp) (v : V) (xs : List D) (c : OC) (F : Addr → Prop) : Prop := ∃ t vs b o, v = .ref t ∧ SqT m.K H t (vs ++ [.ref b]) ∧ RepL m H vs xs ∧ H b = some o ∧ RepO m H b o c ∧ F b
def RetOk (rm : RM) (G : Gh) (H : Hp) (v : V) (d : D) : Prop := match rm with
  | .f => Rep G.m H v d
  | .o => match conOf d with
    | some c => ∃ a o, v = .ref a ∧ H a = some o ∧ RepO G.m H a o c ∧ G.H0 a = none ∧ ∀ p ∈ G.pr, p.2 ≠ a
    | none => Rep G.m H v d
  | .t => match splitT d with
    | some z => TupOk G.m H v z.1 z.2 fun b => G.H0 b = none ∧ ∀ p ∈ G.pr, p.2 ≠ b
    | none => False
def postS (G : Gh) (W : WX) (rm : RM) (H : Hp) (r : Res Flow) (E : Ends) : Prop := match r with
  | .ok .nx ρ => ∀ σ' H', Stable H H' → StOk G σ' H' ρ → E.nx σ' H'
  | .ok (.ret d) ρ => ∀ v σ' H', Stable H H' → StOk G σ' H' ρ → RetOk rm G H' v d → E.rt v H'
  | .ok .brk ρ => ∀ σ' H', Stable H H' → StOk G σ' H' ρ → E.bk σ' H'
  | .ok .ct ρ => ∀ σ' H', Stable H H' → StOk G σ' H' ρ → E.ct σ' H'
  | .exc c ρ => ∀ σ' C H', G.m.mg c = some (.ref C) → Stable H H' → StOk G σ' H' ρ → W (.ref C) none σ' H'
  | .stuck => False
def sT (G : Gh) (W : WX) (rm : RM) (f : MS) : TS := fun E σ H => ∃ ρ, StOk G σ H ρ ∧ postS G W rm H (f ρ) E
def DS (X : Cx) (G : Gh) (W : WX) (rm : RM) (st : Stmt) (f : MS) : Prop := PS X st (sT G W rm f)
def DSs (X : Cx) (G : Gh) (W : WX) (rm : RM) (st : List Stmt) (f : MS) : Prop := PSs X st (sT G W rm f)
section
variable {G : Gh} {W : WX} {rm : RM} {σ : L2.St} {H H1 : Hp} {α : Type} {E : Ends}
theorem postS.from {r : Res Flow} (s : Stable H H1) (h : postS G W rm H r E) : postS G W rm H1 r E := by
  cases r with
  | ok f ρ =>
    cases f with
    | nx => exact fun σ' H' s' k => h σ' H' (s.trans s') k
    | ret d => exact fun v σ' H' s' k => h v σ' H' (s.trans s') k
    | brk => exact fun σ' H' s' k => h σ' H' (s.trans s') k
    | ct => exact fun σ' H' s' k => h σ' H' (s.trans s') k
  | exc c ρ => exact fun σ' C H' e s' k => h σ' C H' e (s.trans s') k
  | stuck => exact h
theorem postS.bind {a : M α} {k : α → MS} {ρ : Env} (h : postS G W rm H (bindM a k ρ) E) : postG G W σ H (a ρ) (fun x ρ1 H1 => postS G W rm H1 (k x ρ1) E) := by
  unfold bindM at h
  cases e : a ρ with
  | ok x ρ1 =>
    rw [e] at h
    exact fun H1 s1 _ => postS.from s1 h
  | exc c ρ1 => rw [e] at h; exact fun C H' e s' k => h σ C H' e s' k
  | stuck => rw [e] at h; exact h
end
def seqM (a b : MS) : MS := fun ρ => match a ρ with
  | .ok .nx ρ' => b ρ'
  | r => r
def skipM : MS := fun ρ => .ok .nx ρ
def setM (i : Nat) (f : M D) : MS := bindM f fun d ρ => .ok .nx (ρ.set i (.d d))
def setOM (i : Nat) (f : M (List D)) : MS := bindM f fun ds ρ => .ok .nx (ρ.set i (.own ds))
def dropM (f : M D) : MS := bindM f fun _ ρ => .ok .nx ρ
def retM (f : M D) : MS := bindM f fun d ρ => .ok (.ret d) ρ
def retOM (f : M (List D)) : MS := bindM f fun ds ρ => .ok (.ret (.lst ds)) ρ
def ifM (c : M Bool) (a b : MS) : MS := bindM c fun k => match k with
  | true => a
  | false => b
section
variable {X : Cx} {G : Gh} {W : WX} {rm : RM} {e : Expr} {st : Stmt} {rest : List Stmt} {pos : Pos}
theorem dss_nil : DSs X G W rm [] skipM := pss_imp pss_nil fun E σ H ⟨ρ, k, q⟩ => q σ H Stable.rfl k
theorem dss_cons {f g : MS} (h1 : DS X G W rm st f) (h2 : DSs X G W rm rest g) : DSs X G W rm (st :: rest) (seqM f g) := pss_imp (pss_cons h1 h2) fun E σ H ⟨ρ, k, q⟩ => by
  refine ⟨ρ, k, ?_⟩
  unfold seqM at q
  cases e : f ρ with
  | ok fl ρ1 =>
    rw [e] at q
    cases fl with
    | nx => exact fun σ' H' s' k' => ⟨ρ1, k', postS.from s' q⟩
    | ret d => exact q
    | brk => exact q
    | ct => exact q
  | exc c ρ1 => rw [e] at q; exact q
  | stuck => rw [e] at q; exact q
theorem dss_one {f : MS} (h1 : DS X G W rm st f) : DSs X G W rm [st] f := pss_imp (pss_one h1) fun E σ H h => h
theorem ds_set (i : Nat) {x : Str} {f : M D} {pos' : Pos} (hp : pfree G i) (hN : X.N.Nodup) (hi : X.N[i]? = some x) (hx : Loc X.env.scope x) (he : DE X G W e f) (hs : swapsWith e (some (.Name x pos')) pos.line X.env = pure false := by rfl) (hf : X.fn x = true ∨ X.env.scope.names.lookup x = some .local := by first | exact .inl rfl | exact .inr rfl | assumption) :
    DS X G W rm (.Assign [.Name x pos'] e pos) (setM i f) := ps_imp (ps_set hN hi hx he hs hf) fun E σ H ⟨ρ, k, q⟩ => ⟨ρ, k, q.bind.mono fun d ρ1 H1 _ s1 k1 q1 v r => q1 _ H1 Stable.rfl (k1.setD hp r)⟩
theorem ds_setO (i : Nat) {x : Str} {f : M (List D)} {pos' : Pos} (hp : pfree G i) (hN : X.N.Nodup) (hi : X.N[i]? = some x) (hx : Loc X.env.scope x) (he : DO X G W e f) (hs : swapsWith e (some (.Name x pos')) pos.line X.env = pure false := by rfl) (hf : X.fn x = true ∨ X.env.scope.names.lookup x = some .local := by first | exact .inl rfl | exact .inr rfl | assumption) :
    DS X G W rm (.Assign [.Name x pos'] e pos) (setOM i f) := ps_imp (ps_set hN hi hx he hs hf) fun E σ H ⟨ρ, k, q⟩ => ⟨ρ, k, q.bind.mono fun ds ρ1 H1 _ s1 k1 q1 a vs ha r f => q1 _ H1 Stable.rfl (k1.setO hp ha r f)⟩
theorem ds_expr {f : M D} (he : DE X G W e f) (hs : swapsWith e none pos.line X.env = pure false := by rfl) : DS X G W rm (.Expr e pos) (dropM f) :=
  ps_imp (ps_expr he hs) fun E σ H ⟨ρ, k, q⟩ => ⟨ρ, k, q.bind.mono fun d ρ1 H1 _ s1 k1 q1 v r => q1 _ H1 Stable.rfl k1⟩
theorem ds_ret {f : M D} (he : DE X G W e f) : DS X G W .f (.Return (some e) pos) (retM f) :=
  ps_imp (ps_ret he) fun E σ H ⟨ρ, k, q⟩ => ⟨ρ, k, q.bind.mono fun d ρ1 H1 _ s1 k1 q1 v r => q1 v σ H1 Stable.rfl k1 r⟩
/-- no container, where one may be handed back -/
def retXM (f : M D) : MS := bindM f fun d => match conOf d with
  | some _ => stuckM
  | none => fun ρ => .ok (.ret d) ρ
theorem ds_retX {f : M D} (he : DE X G W e f) : DS X G W .o (.Return (some e) pos) (retXM f) :=
  ps_imp (ps_ret he) fun E σ H ⟨ρ, k, q⟩ => ⟨ρ, k, q.bind.mono fun d ρ1 H1 _ s1 k1 q1 v r => by
    cases c : conOf d with
    | some _ => simp only [c] at q1; exact q1.elim
    | none =>
      simp only [c] at q1
      exact q1 v σ H1 Stable.rfl k1 (by unfold RetOk; simp only [c]; exact r)⟩
theorem ds_if {c : Expr} {a b : List Stmt} {t : M Bool} {f g : MS} (hc : DT X G W c t) (ha : DSs X G W rm a f) (hb : DSs X G W rm b g) : DS X G W rm (.If c a b pos) (ifM t f g) :=
  ps_imp (ps_if hc ha hb) fun E σ H ⟨ρ, k, q⟩ => ⟨ρ, k, q.bind.mono fun c ρ1 H1 _ s1 k1 q1 => by
    cases c with
    | true => rw [if_pos rfl]; exact ⟨ρ1, k1, q1⟩
    | false => rw [if_neg (by decide)]; exact ⟨ρ1, k1, q1⟩⟩

/-! ### own lists changed -/
def MtO (m : Md) (r : V → List V → Hp → VK → Prop) (g : List D → List D → Option (D × List D)) : Prop :=
  ∀ (a : Addr) (vs args : List V) (xs ds : List D) (d : D) (ys : List D) (H : Hp) (Q : VK), H a = some (.lst vs) → RepL m H vs xs → RepL m H args ds → g xs ds = some (d, ys) →
    (∀ v ws, RepL m H ws ys → Rep m H v d → Q v (upd H a (.lst ws))) → r (.ref a) args H Q
def mtO (i : Nat) (g : List D → List D → Option (D × List D)) (f : M (List D)) : M D := bindM (getO i) fun _ => bindM f fun ds => bindM (getO i) fun xs => bindM (liftM (g xs ds)) fun z => bindM (putO i z.2) fun _ => pureM z.1
theorem mtO_fin {ρ : Env} {σ : L2.St} {H : Hp} {i : Nat} {g : List D → List D → Option (D × List D)} {r : V → List V → Hp → VK → Prop} {a : Addr} {args : List V} {ds : List D} {Q : VK} (hr : MtO G.m r g) (k : StOk G σ H ρ) (h1 : σ[i]? = some (some (.ref a))) (ra : RepL G.m H args ds)
    (q : postG G W σ H ((bindM (getO i) fun xs => bindM (liftM (g xs ds)) fun z => bindM (putO i z.2) fun _ => pureM z.1) ρ) fun d _ H' => ∀ v, Rep G.m H' v d → Q v H') : r (.ref a) args H Q := by
  obtain ⟨xs, e1, q⟩ := getO_run q
  obtain ⟨a', vs, g1, g2, g3, _⟩ := k.ownL i xs e1
  rw [h1] at g1; injection g1 with g1; injection g1 with g1; injection g1 with g1
  subst g1
  obtain ⟨⟨d, ys⟩, e, q⟩ := q.bind.lift k
  refine hr a vs args xs ds d ys H Q g2 g3 ra e fun v ws rw' rv => ?_
  have st : Stable H (upd H a (.lst ws)) := Stable.upd g2 id
  exact q H Stable.rfl k _ st (k.wrote e1 h1 rw') v (rv.st st)
theorem de_bmO (i : Nat) {x name id : Str} {T idS : String} {r : V → List V → Hp → VK → Prop} {g : List D → List D → Option (D × List D)} {f : M (List D)} {es : List Expr} {pos' apos : Pos} (slot : Slot "list" name idS) (hty : typeOf (.builtin idS) = pure (.type "method_descriptor")) (hm : MtR X idS r) (hr : MtO G.m r g) (ha : DA X G W (e :: es) f)
    (hN : X.N[i]? = some x) (hv : Vis X.env.scope x := by first | exact .inl rfl | exact .inr (.inl rfl) | exact .inr (.inr rfl)) (hd : (x == ("__debug__" : Str)) = false := by decide) (hcd : (x == ("__classdict__" : Str)) = false := by decide)
    (hbase : attributeBase (.Name x pos') name X.env (eval (.Name x pos') X.env) = eval (.Name x pos') X.env := by rfl)
    (hfew : ((backTo pos (starEach (e :: es) X.env)).all (fun x => !x.1) && (backToKw pos (keywordEach [] X.env)).all (fun x => x.1.isSome)
      && decide ((e :: es).length + ([] : List Keyword).length + (if ([] : List Keyword).isEmpty then 0 else 1) < 30)) = true := by rfl)
    (hline : (apos.endLine == pos.line) = true := by rfl) (hs : starEach (e :: es) X.env = (false, eval e X.env) :: starEach es X.env := by rfl) (hplain : (backTo pos (starEach es X.env)).any (·.1) = false := by rfl) :
    DE X G W (.Call (.Attribute (.Name x pos') name apos) (e :: es) [] pos) (mtO i g f) :=
  pe_imp (pe_bm PySem.F.plainAttrs_list slot hty hm (pe_var (i := i) hN hv hd hcd) ha hbase hfew hline hs hplain) fun σ H Q ⟨ρ, k, q⟩ => by
    obtain ⟨xs0, e0, q⟩ := getO_run q
    obtain ⟨a, vs0, h1, h2, _⟩ := k.ownL i xs0 e0
    exact ⟨_, h1, .inl ⟨rfl, _, SqL.of h2⟩, ρ, k, q.bind.mono fun ds ρ1 H1 _ s1 k1 q1 vs rs => mtO_fin hr k1 h1 rs q1⟩
theorem de_bmO0 (i : Nat) {x name : Str} {idS : String} {r : V → List V → Hp → VK → Prop} {g : List D → List D → Option (D × List D)} {pos' apos : Pos} (slot : Slot "list" name idS) (hty : typeOf (.builtin idS) = pure (.type "method_descriptor")) (hm : MtR X idS r) (hr : MtO G.m r g)
    (hN : X.N[i]? = some x) (hv : Vis X.env.scope x := by first | exact .inl rfl | exact .inr (.inl rfl) | exact .inr (.inr rfl)) (hd : (x == ("__debug__" : Str)) = false := by decide) (hcd : (x == ("__classdict__" : Str)) = false := by decide)
    (hbase : attributeBase (.Name x pos') name X.env (eval (.Name x pos') X.env) = eval (.Name x pos') X.env := by rfl) (hline : (apos.endLine == pos.line) = true := by rfl) :
    DE X G W (.Call (.Attribute (.Name x pos') name apos) [] [] pos) (mtO i g (pureM [])) :=
  pe_imp (pe_bm0 PySem.F.plainAttrs_list slot hty hm (pe_var (i := i) hN hv hd hcd) hbase hline) fun σ H Q ⟨ρ, k, q⟩ => by
    obtain ⟨xs0, e0, q⟩ := getO_run q
    obtain ⟨a, vs0, h1, h2, _⟩ := k.ownL i xs0 e0
    exact ⟨_, h1, .inl ⟨rfl, _, SqL.of h2⟩, mtO_fin hr k h1 .nil (q.bind H Stable.rfl k)⟩
/-- o[k] = e, o an own list -/
def ixSet (xs : List D) (k : D) (d : D) : Option (List D) := match k with
  | .int z => (ixN xs.length z).map fun j => xs.set j d
  | _ => none
def setIM (i : Nat) (fk fe : M D) : MS := bindM fe fun d => bindM (getO i) fun _ => bindM fk fun z => bindM (getO i) fun xs => bindM (liftM (ixSet xs z d)) fun ys => bindM (putO i ys) fun _ => skipM
end
end DL
end
section
namespace DL
open PySem PySem.Spec L2
open PyProof.Rows hiding St

/-! ### defs -/
inductive FRes where
  | ok (d : D) (os : List OC) | exc (c : Str) (os : List OC) | stuck
abbrev Fn := List Sl → FRes
def isOwn : Sl → Bool
  | .cell _ => true
  | _ => false
/-- the by-reference parameters' new contents -/
def replOwn : Env → List OC → Env
  | [], _ => []
  | .cell _ :: ρ, o :: os => .cell o :: replOwn ρ os
  | .cell x :: ρ, [] => .cell x :: replOwn ρ []
  | s :: ρ, os => s :: replOwn ρ os
def collect : Env → Env → List OC
  | .cell _ :: a, .cell x :: b => x :: collect a b
  | _ :: a, _ :: b => collect a b
  | _, _ => []
structure ArgOk (m : Md) (ex : Option (Addr × Str)) (vs : List V) (H : Hp) (ρ : Env) : Prop where
  len : vs.length = ρ.length
  dat : ∀ (i : Nat) (x : D), ρ[i]? = some (.d x) → ∃ v, vs[i]? = some v ∧ Rep m H v x
  own : ∀ (i : Nat) (xs : OC), ρ[i]? = some (.cell xs) → ∃ a ws, vs[i]? = some (.ref a) ∧ H a = some ws ∧ RepO m H a ws xs
  sep : ∀ (i j : Nat) (xs ys : OC) (a : Addr), i ≠ j → ρ[i]? = some (.cell xs) → ρ[j]? = some (.cell ys) → vs[i]? = some (.ref a) → vs[j]? ≠ some (.ref a)
  exn : ∀ (i : Nat) (c : Str), ρ[i]? = some (.exn c) → ∃ a, ex = some (a, c) ∧ vs[i]? = some (.ref a)
def Keeps (vs : List V) (ρ : Env) (H H' : Hp) : Prop := ∀ a o, H a = some o → (∀ (i : Nat) (xs : OC), ρ[i]? = some (.cell xs) → vs[i]? ≠ some (.ref a)) → H' a = some o
def RetF (rm : RM) (m : Md) (H H' : Hp) (v : V) (d : D) : Prop := match rm with
  | .f => Rep m H' v d
  | .o => match conOf d with
    | some c => ∃ a o, v = .ref a ∧ H' a = some o ∧ RepO m H' a o c ∧ H a = none
    | none => Rep m H' v d
  | .t => match splitT d with
    | some z => TupOk m H' v z.1 z.2 fun b => H b = none
    | none => False
def postF (m : Md) (ex : Option (Addr × Str)) (rm : RM) (vs : List V) (ρ : Env) (H : Hp) (r : FRes) (Q : VK) (E : XK) : Prop := match r with
  | .ok d os => ∀ v H', Keeps vs ρ H H' → Stable H H' → ArgOk m ex vs H' (replOwn ρ os) → RetF rm m H H' v d → Q v H'
  | .exc c os => ∀ C H', m.mg c = some (.ref C) → Keeps vs ρ H H' → Stable H H' → ArgOk m ex vs H' (replOwn ρ os) → E (.ref C) none H'
  | .stuck => False
/-- the promise of a def: it computes f. md: which parameters are by reference; rm: a list of its own is handed back -/
def spD (m : Md) (ex : Option (Addr × Str)) (md : List Bool) (rm : RM) (f : Fn) : Sp := fun vs H Q E => ∃ ρ, ρ.map isOwn = md ∧ ArgOk m ex vs H ρ ∧ postF m ex rm vs ρ H (f ρ) Q E

/-! ### a body -/
def prOf : List V → Env → Nat → List (Nat × Addr)
  | .ref a :: vs, .cell _ :: ρ, i => (i, a) :: prOf vs ρ (i + 1)
  | _ :: vs, _ :: ρ, i => prOf vs ρ (i + 1)
  | _, _, _ => []
theorem mem_prOf : ∀ {vs : List V} {ρ : Env} {i : Nat} {p : Nat × Addr}, p ∈ prOf vs ρ i → ∃ j, p.1 = i + j ∧ vs[j]? = some (.ref p.2) ∧ ∃ xs, ρ[j]? = some (.cell xs)
  | [], ρ, i, p, h => by cases ρ <;> simp [prOf] at h
  | v :: vs, [], i, p, h => by cases v <;> simp [prOf] at h
  | v :: vs, s :: ρ, i, p, h => by
    have tl : p ∈ prOf vs ρ (i + 1) → ∃ j, p.1 = i + j ∧ (v :: vs)[j]? = some (.ref p.2) ∧ ∃ xs, (s :: ρ)[j]? = some (.cell xs) := fun h => by
      obtain ⟨j, e, h1, h2⟩ := mem_prOf h
      exact ⟨j + 1, by omega, by simpa using h1, by simpa using h2⟩
    cases v with
    | ref a =>
      cases s with
      | cell xs =>
        simp only [prOf, List.mem_cons] at h
        rcases h with h | h
        · subst h; exact ⟨0, rfl, rfl, xs, rfl⟩
        · exact tl h
      | _ => exact tl (by simpa [prOf] using h)
    | _ => exact tl (by cases s <;> simpa [prOf] using h)
theorem prOf_mem : ∀ {vs : List V} {ρ : Env} {i j : Nat} {a : Addr} {xs : OC}, vs[j]? = some (.ref a) → ρ[j]? = some (.cell xs) → (i + j, a) ∈ prOf vs ρ i
  | [], ρ, i, j, a, xs, h, _ => by simp at h
  | v :: vs, [], i, j, a, xs, _, h => by simp at h
  | v :: vs, s :: ρ, i, 0, a, xs, h1, h2 => by
    simp at h1 h2
    subst h1; subst h2
    simp [prOf]
  | v :: vs, s :: ρ, i, j + 1, a, xs, h1, h2 => by
    have q := prOf_mem (i := i + 1) (j := j) (by simpa using h1) (by simpa using h2)
    rw [show i + 1 + j = i + (j + 1) by omega] at q
    cases v with
    | ref b =>
      cases s with
      | cell ys => simp only [prOf, List.mem_cons]; exact .inr q
      | _ => simpa [prOf] using q
    | _ => cases s <;> simpa [prOf] using q
def ghOf (m : Md) (ex : Option (Addr × Str)) (vs : List V) (ρ : Env) (H : Hp) : Gh := ⟨m, H, prOf vs ρ 0, ex⟩
theorem pfree_of {m : Md} {ex : Option (Addr × Str)} {vs : List V} {ρ : Env} {H : Hp} {md : List Bool} (h : ρ.map isOwn = md) (i : Nat) (hi : md.getD i false = false) : pfree (ghOf m ex vs ρ H) i := fun p hp e => by
  obtain ⟨j, e1, _, xs, h2⟩ := mem_prOf hp
  have e2 : j = i := by omega
  subst e2
  rw [← h] at hi
  rw [List.getD_eq_getElem?_getD, List.getElem?_map, h2] at hi
  simp [isOwn] at hi
theorem start_ok {m : Md} {ex : Option (Addr × Str)} {vs : List V} {ρ : Env} {H : Hp} {n : Nat} (a : ArgOk m ex vs H ρ) : StOk (ghOf m ex vs ρ H) (vs.map some ++ List.replicate n none) H (ρ ++ List.replicate n .no) := by
  have low : ∀ (i : Nat) (s : Sl), s ≠ .no → (ρ ++ List.replicate n Sl.no)[i]? = some s → ρ[i]? = some s := fun i s hs h => by
    by_cases hi : i < ρ.length
    · rw [List.getElem?_append_left hi] at h; exact h
    · rw [List.getElem?_append_right (by omega), List.getElem?_replicate] at h
      split at h
      · cases h; exact absurd rfl hs
      · cases h
  have lv : ∀ (i : Nat) (v : V), vs[i]? = some v → (vs.map some ++ List.replicate n none)[i]? = some (some v) := fun i v h => by
    have hi : i < vs.length := (List.getElem?_eq_some_iff.mp h).1
    rw [List.getElem?_append_left (by simpa using hi), List.getElem?_map, h]; rfl
  have vl : ∀ (i : Nat) (v : V), (vs.map some ++ List.replicate n none)[i]? = some (some v) → vs[i]? = some v := fun i v h => by
    by_cases hi : i < vs.length
    · rw [List.getElem?_append_left (by simpa using hi), List.getElem?_map] at h
      cases e : vs[i]? with
      | none => rw [e] at h; cases h
      | some w => rw [e] at h; simp at h; rw [h]
    · rw [List.getElem?_append_right (by simpa using hi), List.getElem?_replicate] at h
      split at h <;> cases h
  refine ⟨by simp [a.len], fun i x h => ?_, fun i xs h => ?_, fun i j xs ys b ne h1 h2 h3 h4 => ?_, fun p hp => ?_, fun b o h _ => h, fun i c h => ?_⟩
  · obtain ⟨v, h1, h2⟩ := a.dat i x (low i _ (fun z => by cases z) h)
    exact ⟨v, lv i v h1, h2⟩
  · have h' := low i _ (fun z => by cases z) h
    obtain ⟨b, ws, h1, h2, h3⟩ := a.own i xs h'
    refine ⟨b, ws, lv i _ h1, h2, h3, fun hno => ?_⟩
    exact absurd rfl (hno (i, b) (show (i, b) ∈ prOf vs ρ 0 by simpa using prOf_mem (i := 0) h1 h'))
  · exact a.sep i j xs ys b ne (low i _ (fun z => by cases z) h1) (low j _ (fun z => by cases z) h2) (vl i _ h3) (vl j _ h4)
  · obtain ⟨j, e, h1, xs, h2⟩ := mem_prOf hp
    have e : p.1 = j := by omega
    rw [e]
    refine ⟨lv j _ h1, xs, ?_⟩
    have hj : j < ρ.length := (List.getElem?_eq_some_iff.mp h2).1
    rw [List.getElem?_append_left hj]; exact h2
  · obtain ⟨b, h1, h2⟩ := a.exn i c (low i _ (fun z => by cases z) h)
    exact ⟨b, h1, lv i _ h2⟩
theorem replOwn_len : ∀ (ρ : Env) (os : List OC), (replOwn ρ os).length = ρ.length
  | [], _ => rfl
  | s :: ρ, os => by
    cases s with
    | cell x => cases os <;> simp [replOwn, replOwn_len]
    | _ => simp [replOwn, replOwn_len]
/-- what stands at i behind collect and replOwn -/
theorem replOwn_collect : ∀ (ρ ρ' : Env) (i : Nat), (∀ j, isOwn (ρ.getD j .no) = true → isOwn (ρ'.getD j .no) = true) →
    (∀ xs, ρ[i]? = some (.cell xs) → (replOwn ρ (collect ρ ρ'))[i]? = ρ'[i]?) ∧ (∀ s, isOwn s = false → ρ[i]? = some s → (replOwn ρ (collect ρ ρ'))[i]? = some s)
  | [], ρ', i, h => ⟨fun xs e => by simp at e, fun s _ e => by simp at e⟩
  | s :: ρ, [], i, h => by
    have none : ∀ (l : Env), (∀ j, isOwn (l.getD j .no) = true → isOwn (([] : Env).getD j .no) = true) → ∀ t ∈ l, isOwn t = false := fun l hl t ht => by
      obtain ⟨j, hj, e⟩ := List.mem_iff_getElem.mp ht
      cases q : isOwn t with
      | false => rfl
      | true =>
        have z := hl j (by rw [List.getD_eq_getElem?_getD, List.getElem?_eq_getElem hj, e]; exact q)
        simp [isOwn] at z
    have all := none (s :: ρ) h
    have same : ∀ (l : Env), (∀ t ∈ l, isOwn t = false) → replOwn l [] = l := by
      intro l
      induction l with
      | nil => intro _; rfl
      | cons t l ih =>
        intro hl
        have ht := hl t List.mem_cons_self
        have := ih fun u hu => hl u (List.mem_cons_of_mem _ hu)
        cases t <;> first | (simp [replOwn, this]; done) | (simp [isOwn] at ht)
    have ce : collect (s :: ρ) [] = [] := by cases s <;> rfl
    rw [ce, same _ all]
    refine ⟨fun xs e => ?_, fun t _ e => e⟩
    have := all _ (List.mem_of_getElem? e)
    simp [isOwn] at this
  | s :: ρ, s' :: ρ', i, h => by
    have ht : ∀ j, isOwn (ρ.getD j .no) = true → isOwn (ρ'.getD j .no) = true := fun j hj => by simpa using h (j + 1) (by simpa using hj)
    have h0 : isOwn s = true → isOwn s' = true := by simpa using h 0
    have ih := replOwn_collect ρ ρ'
    cases s with
    | cell x =>
      cases s' with
      | cell y =>
        have e : replOwn (.cell x :: ρ) (collect (.cell x :: ρ) (.cell y :: ρ')) = .cell y :: replOwn ρ (collect ρ ρ') := rfl
        rw [e]
        cases i with
        | zero => exact ⟨fun xs _ => rfl, fun t ht e => by simp at e; subst e; simp [isOwn] at ht⟩
        | succ i => simpa using ih i ht
      | _ => simp [isOwn] at h0
    | no =>
      have e : replOwn (.no :: ρ) (collect (.no :: ρ) (s' :: ρ')) = .no :: replOwn ρ (collect ρ ρ') := by cases s' <;> rfl
      rw [e]
      cases i with
      | zero => exact ⟨fun xs e => by simp at e, fun t _ e => by simpa using e⟩
      | succ i => simpa using ih i ht
    | d x =>
      have e : replOwn (.d x :: ρ) (collect (.d x :: ρ) (s' :: ρ')) = .d x :: replOwn ρ (collect ρ ρ') := by cases s' <;> rfl
      rw [e]
      cases i with
      | zero => exact ⟨fun xs e => by simp at e, fun t _ e => by simpa using e⟩
      | succ i => simpa using ih i ht
    | exn x =>
      have e : replOwn (.exn x :: ρ) (collect (.exn x :: ρ) (s' :: ρ')) = .exn x :: replOwn ρ (collect ρ ρ') := by cases s' <;> rfl
      rw [e]
      cases i with
      | zero => exact ⟨fun xs e => by simp at e, fun t _ e => by simpa using e⟩
      | succ i => simpa using ih i ht
/-- behind the body: the parameters -/
theorem end_ok {m : Md} {ex : Option (Addr × Str)} {vs : List V} {ρ ρ' : Env} {H H' : Hp} {σ' : L2.St} (a : ArgOk m ex vs H ρ) (st : Stable H H') (k : StOk (ghOf m ex vs ρ H) σ' H' ρ') :
    Keeps vs ρ H H' ∧ ArgOk m ex vs H' (replOwn ρ (collect ρ ρ')) := by
  have at_ : ∀ (i : Nat) (xs : OC), ρ[i]? = some (.cell xs) → ∃ b ys ws, vs[i]? = some (.ref b) ∧ σ'[i]? = some (some (.ref b)) ∧ ρ'[i]? = some (.cell ys) ∧ H' b = some ws ∧ RepO m H' b ws ys := fun i xs h => by
    obtain ⟨b, ws0, h1, h2, h3⟩ := a.own i xs h
    have hp : (i, b) ∈ (ghOf m ex vs ρ H).pr := show (i, b) ∈ prOf vs ρ 0 by simpa using prOf_mem (i := 0) h1 h
    obtain ⟨q1, ys, q2⟩ := k.prot _ hp
    obtain ⟨b', ws, q3, q4, q5, _⟩ := k.own i ys q2
    have q1 : σ'[i]? = some (some (.ref b)) := q1
    rw [q1] at q3; injection q3 with q3; injection q3 with q3; injection q3 with q3
    subst q3
    exact ⟨b, ys, ws, h1, q1, q2, q4, q5⟩
  refine ⟨fun b o h1 h2 => k.keep b o h1 fun p hp e => ?_, ?_⟩
  · obtain ⟨j, e1, e2, xs, e3⟩ := mem_prOf hp
    rw [e] at e2
    exact h2 j xs e3 e2
  · have mono : ∀ j, isOwn (ρ.getD j .no) = true → isOwn (ρ'.getD j .no) = true := fun j hj => by
      rw [List.getD_eq_getElem?_getD] at hj ⊢
      cases e : ρ[j]? with
      | none => rw [e] at hj; simp [isOwn] at hj
      | some s =>
        rw [e] at hj
        cases s with
        | cell xs =>
          obtain ⟨b, ys, ws, _, _, h3, _⟩ := at_ j xs e
          rw [h3]; rfl
        | _ => simp [isOwn] at hj
    have rc := fun i => replOwn_collect ρ ρ' i mono
    have inv : ∀ (i : Nat) (s : Sl), (replOwn ρ (collect ρ ρ'))[i]? = some s → (isOwn s = false ∧ ρ[i]? = some s) ∨ ∃ xs ys, s = .cell ys ∧ ρ[i]? = some (.cell xs) ∧ ρ'[i]? = some (.cell ys) := fun i s h => by
      have hi : i < ρ.length := by rw [← replOwn_len ρ (collect ρ ρ')]; exact (List.getElem?_eq_some_iff.mp h).1
      obtain ⟨t, ht⟩ : ∃ t, ρ[i]? = some t := ⟨_, List.getElem?_eq_getElem hi⟩
      cases q : isOwn t with
      | false =>
        have := (rc i).2 t q ht
        rw [this] at h; cases h
        exact .inl ⟨q, ht⟩
      | true =>
        cases t with
        | cell xs =>
          obtain ⟨b, ys, ws, h1, h2, h3, _⟩ := at_ i xs ht
          rw [(rc i).1 xs ht, h3] at h; cases h
          exact .inr ⟨xs, ys, rfl, ht, h3⟩
        | _ => simp [isOwn] at q
    refine ⟨by rw [replOwn_len]; exact a.len, fun i x h => ?_, fun i xs h => ?_, fun i j xs ys b ne h1 h2 => ?_, fun i c h => ?_⟩
    · rcases inv i _ h with ⟨_, h⟩ | ⟨_, _, e, _⟩
      · obtain ⟨v, h1, h2⟩ := a.dat i x h
        exact ⟨v, h1, h2.st st⟩
      · cases e
    · rcases inv i _ h with ⟨e, _⟩ | ⟨ys, zs, e, h1, h2⟩
      · simp [isOwn] at e
      · cases e
        obtain ⟨b, us, ws, g1, g2, g3, g4, g5⟩ := at_ i ys h1
        rw [h2] at g3; cases g3
        exact ⟨b, ws, g1, g4, g5⟩
    · rcases inv i _ h1 with ⟨e, _⟩ | ⟨us, zs, e, g1, g2⟩
      · simp [isOwn] at e
      rcases inv j _ h2 with ⟨e, _⟩ | ⟨us', zs', e', g1', g2'⟩
      · simp [isOwn] at e
      exact a.sep i j us us' b ne g1 g1'
    · rcases inv i _ h with ⟨_, h⟩ | ⟨_, _, e, _⟩
      · exact a.exn i c h
      · cases e
/-- the def's function: n slots in all -/
def fnM (rm : Bool) (n : Nat) (body : MS) : Fn := fun ρ => match body (ρ ++ List.replicate (n - ρ.length) .no) with
  | .ok .nx ρ' => if rm = true then .stuck else .ok .non (collect ρ ρ')
  | .ok (.ret d) ρ' => .ok d (collect ρ ρ')
  | .exc c ρ' => .exc c (collect ρ ρ')
  | _ => .stuck
theorem body_ok {m : Md} {ex : Option (Addr × Str)} {rm : RM} {n : Nat} {body : MS} {vs : List V} {ρ : Env} {H : Hp} {Q : VK} {E : XK} {W : WX} (hW : ∀ cls d σ H, E cls d H → W cls d σ H) 
    (a : ArgOk m ex vs H ρ) (h : postF m ex rm vs ρ H (fnM rm.b n body ρ) Q E) :
    sT (ghOf m ex vs ρ H) W rm body { nx := fun _ H' => Q .non H', rt := Q } (vs.map some ++ List.replicate (n - vs.length) none) H := by
  refine ⟨ρ ++ List.replicate (n - ρ.length) .no, by rw [a.len]; exact start_ok a, ?_⟩
  unfold fnM at h
  cases e : body (ρ ++ List.replicate (n - ρ.length) .no) with
  | ok fl ρ' =>
    rw [e] at h
    cases fl with
    | nx =>
      intro σ' H' s k
      obtain ⟨k1, k2⟩ := end_ok a s k
      cases rm with
      | f => exact h .non H' k1 s k2 .non
      | o => exact h.elim
      | t => exact h.elim
    | ret d =>
      intro v σ' H' s k r
      obtain ⟨k1, k2⟩ := end_ok a s k
      refine h v H' k1 s k2 ?_
      cases rm with
      | f => exact r
      | t =>
        unfold RetOk at r
        unfold RetF
        cases u : splitT d with
        | none => simp only [u] at r
        | some z =>
          simp only [u] at r ⊢
          obtain ⟨t, us, b, o, r1, r2, r3, r4, r5, r6⟩ := r
          exact ⟨t, us, b, o, r1, r2, r3, r4, r5, r6.1⟩
      | o =>
        unfold RetOk at r
        unfold RetF
        cases c : conOf d with
        | none => simp only [c] at r ⊢; exact r
        | some c' =>
          simp only [c] at r ⊢
          obtain ⟨b, o, r1, r2, r3, r4, r5⟩ := r
          exact ⟨b, o, r1, r2, r3, r4⟩
    | brk => exact h.elim
    | ct => exact h.elim
  | exc c ρ' =>
    rw [e] at h
    intro σ' C H' e s k
    obtain ⟨k1, k2⟩ := end_ok a s k
    exact hW _ _ _ _ (h C H' e k1 s k2)
  | stuck => rw [e] at h; exact h.elim
/-- THE RULE for a def -/
theorem fn_ok {P : Program} {w : World} {K : PySem.W.Frag} {mg : Str → Option Value} {base : Heap} {k : Nat} {f : Addr} {fd : FuncData} {N ps : List Str} {x qual : Str} {params : Arguments} {body : List Stmt} {scope : Scope} {md : List Bool} {rm : RM} {bm : MS}
    (F : FunD K x qual params body scope [] [] f fd) (S : FnScope N ps scope) (hmd : md.length = ps.length)
    (D : ∀ (cdv : Value) (A : Around) (outer : List PySem.Env) (s : Shared) (H : Hp) (E : XK) (H0 : Hp) (pr : List (Nat × Addr)), (∀ i, md.getD i false = false → pfree ⟨⟨K, mg, w⟩, H0, pr, none⟩ i) → Room k (A.deeper (envOfC qual scope s.heap.objs.size f cdv)) →
      Takes (cxOf (L2.CX P w) P w K mg base N qual scope f cdv A outer s H E) (fun cls d _ H => E cls d H) → DSs (cxOf (L2.CX P w) P w K mg base N qual scope f cdv A outer s H E) ⟨⟨K, mg, w⟩, H0, pr, none⟩ (fun cls d _ H => E cls d H) rm body bm) :
    FnOk P w K mg base (L2.CX P w) (k + 1) f fd ps (spD ⟨K, mg, w⟩ none md rm (fnM rm.b N.length bm)) := by
  refine F.ok S (fun vs H Q E h => ?_) (fun cdv A outer s H vs Q E hr h => ?_)
  · obtain ⟨ρ, h1, h2, _⟩ := h
    rw [h2.len, ← hmd, ← h1, List.length_map]
  · obtain ⟨ρ, h1, h2, h3⟩ := h
    exact ⟨_, D cdv A outer s H E H (prOf vs ρ 0) (fun i hi => pfree_of (m := ⟨K, mg, w⟩) (ex := none) (H := H) h1 i hi) hr (takes_of rfl rfl rfl rfl), body_ok (fun _ _ _ _ z => z) h2 h3⟩
/-! ### calls of defs -/
inductive Ag where
  | d (x : D) | sl (i : Nat) | tmp (c : OC)
def toSl (ρ : Env) : Ag → Sl
  | .d x => .d x
  | .sl i => ρ.getD i .no
  | .tmp c => .cell c
def slots : List Ag → List Nat
  | [] => []
  | .d _ :: r => slots r
  | .sl i :: r => i :: slots r
  | .tmp _ :: r => slots r
def putBack : List Ag → List OC → Env → Env
  | [], _, ρ => ρ
  | .d _ :: r, os, ρ => putBack r os ρ
  | .tmp _ :: r, os, ρ => putBack r (os.drop 1) ρ
  | .sl i :: r, os, ρ => match ρ.getD i .no, os with
    | .cell _, o :: os' => putBack r os' (ρ.set i (.cell o))
    | _, os => putBack r os ρ
inductive AgOk (m : Md) (σ : L2.St) (H : Hp) : List V → List Ag → Prop
  | nil : AgOk m σ H [] []
  | d {v : V} {vs : List V} {x : D} {ags : List Ag} : Rep m H v x → AgOk m σ H vs ags → AgOk m σ H (v :: vs) (.d x :: ags)
  | sl {v : V} {vs : List V} {i : Nat} {ags : List Ag} : σ[i]? = some (some v) → AgOk m σ H vs ags → AgOk m σ H (v :: vs) (.sl i :: ags)
  | tmp {a : Addr} {vs : List V} {o : HO} {c : OC} {ags : List Ag} : H a = some o → RepO m H a o c → AgOk m σ H vs ags → AgOk m σ H (.ref a :: vs) (.tmp c :: ags)
theorem AgOk.len {m : Md} {σ : L2.St} {H : Hp} : ∀ {vs : List V} {ags : List Ag}, AgOk m σ H vs ags → vs.length = ags.length
  | _, _, .nil => rfl
  | _, _, .d _ k => by simp [AgOk.len k]
  | _, _, .sl _ k => by simp [AgOk.len k]
  | _, _, .tmp _ _ k => by simp [AgOk.len k]
theorem AgOk.atD {m : Md} {σ : L2.St} {H : Hp} : ∀ {vs : List V} {ags : List Ag} {p : Nat} {x : D}, AgOk m σ H vs ags → ags[p]? = some (.d x) → ∃ v, vs[p]? = some v ∧ Rep m H v x
  | _, _, p, x, .nil, h => by simp at h
  | _, _, 0, x, .d r _, h => by simp at h; subst h; exact ⟨_, rfl, r⟩
  | _, _, p + 1, x, .d _ k, h => by obtain ⟨v, h1, h2⟩ := AgOk.atD (p := p) (x := x) k (by simpa using h); exact ⟨v, by simpa using h1, h2⟩
  | _, _, 0, x, .sl _ _, h => by simp at h
  | _, _, p + 1, x, .sl _ k, h => by obtain ⟨v, h1, h2⟩ := AgOk.atD (p := p) (x := x) k (by simpa using h); exact ⟨v, by simpa using h1, h2⟩
  | _, _, 0, x, .tmp _ _ _, h => by simp at h
  | _, _, p + 1, x, .tmp _ _ k, h => by obtain ⟨v, h1, h2⟩ := AgOk.atD (p := p) (x := x) k (by simpa using h); exact ⟨v, by simpa using h1, h2⟩
theorem AgOk.atS {m : Md} {σ : L2.St} {H : Hp} : ∀ {vs : List V} {ags : List Ag} {p i : Nat}, AgOk m σ H vs ags → ags[p]? = some (.sl i) → ∃ v, vs[p]? = some v ∧ σ[i]? = some (some v)
  | _, _, p, x, .nil, h => by simp at h
  | _, _, 0, x, .sl r _, h => by simp at h; subst h; exact ⟨_, rfl, r⟩
  | _, _, p + 1, x, .d _ k, h => by obtain ⟨v, h1, h2⟩ := AgOk.atS (p := p) (i := x) k (by simpa using h); exact ⟨v, by simpa using h1, h2⟩
  | _, _, 0, x, .d _ _, h => by simp at h
  | _, _, p + 1, x, .sl _ k, h => by obtain ⟨v, h1, h2⟩ := AgOk.atS (p := p) (i := x) k (by simpa using h); exact ⟨v, by simpa using h1, h2⟩
  | _, _, 0, x, .tmp _ _ _, h => by simp at h
  | _, _, p + 1, x, .tmp _ _ k, h => by obtain ⟨v, h1, h2⟩ := AgOk.atS (p := p) (i := x) k (by simpa using h); exact ⟨v, by simpa using h1, h2⟩
theorem AgOk.atT {m : Md} {σ : L2.St} {H : Hp} : ∀ {vs : List V} {ags : List Ag} {p : Nat} {c : OC}, AgOk m σ H vs ags → ags[p]? = some (.tmp c) → ∃ a o, vs[p]? = some (.ref a) ∧ H a = some o ∧ RepO m H a o c
  | _, _, p, x, .nil, h => by simp at h
  | _, _, 0, x, .d _ _, h => by simp at h
  | _, _, p + 1, x, .d _ k, h => by obtain ⟨a, o, h1, h2⟩ := AgOk.atT (p := p) (c := x) k (by simpa using h); exact ⟨a, o, by simpa using h1, h2⟩
  | _, _, 0, x, .sl _ _, h => by simp at h
  | _, _, p + 1, x, .sl _ k, h => by obtain ⟨a, o, h1, h2⟩ := AgOk.atT (p := p) (c := x) k (by simpa using h); exact ⟨a, o, by simpa using h1, h2⟩
  | _, _, 0, x, .tmp e r _, h => by simp at h; subst h; exact ⟨_, _, rfl, e, r⟩
  | _, _, p + 1, x, .tmp _ _ k, h => by obtain ⟨a, o, h1, h2⟩ := AgOk.atT (p := p) (c := x) k (by simpa using h); exact ⟨a, o, by simpa using h1, h2⟩
/-- temporary containers stand apart -/
def FrAg (G : Gh) (σ : L2.St) (ρ : Env) (vs : List V) (ags : List Ag) : Prop := (∀ (p : Nat) (c : OC) (a : Addr), ags[p]? = some (.tmp c) → vs[p]? = some (.ref a) → Fresh G σ ρ a) ∧
  ∀ (p q : Nat) (c c' : OC) (a : Addr), p ≠ q → ags[p]? = some (.tmp c) → ags[q]? = some (.tmp c') → vs[p]? = some (.ref a) → vs[q]? ≠ some (.ref a)
theorem FrAg.nil {G : Gh} {σ : L2.St} {ρ : Env} : FrAg G σ ρ [] [] := ⟨fun p c a h => by simp at h, fun p q c c' a _ h => by simp at h⟩
theorem FrAg.cons {G : Gh} {σ : L2.St} {ρ : Env} {v : V} {vs : List V} {g : Ag} {ags : List Ag} (hg : ∀ c, g ≠ .tmp c) (f : FrAg G σ ρ vs ags) : FrAg G σ ρ (v :: vs) (g :: ags) := by
  refine ⟨fun p c a h1 h2 => ?_, fun p q c c' a ne h1 h2 h3 => ?_⟩
  · cases p with
    | zero => simp at h1; exact absurd h1 (hg c)
    | succ p => exact f.1 p c a (by simpa using h1) (by simpa using h2)
  · cases p with
    | zero => simp at h1; exact absurd h1 (hg c)
    | succ p =>
      cases q with
      | zero => simp at h2; exact absurd h2 (hg c')
      | succ q => simpa using f.2 p q c c' a (by omega) (by simpa using h1) (by simpa using h2) (by simpa using h3)
theorem FrAg.tmp {G : Gh} {σ : L2.St} {ρ : Env} {b : Addr} {vs : List V} {c0 : OC} {ags : List Ag} (fb : Fresh G σ ρ b) (hn : ∀ (p : Nat) (c : OC), ags[p]? = some (.tmp c) → vs[p]? ≠ some (.ref b)) (f : FrAg G σ ρ vs ags) : FrAg G σ ρ (.ref b :: vs) (.tmp c0 :: ags) := by
  refine ⟨fun p c a h1 h2 => ?_, fun p q c c' a ne h1 h2 h3 => ?_⟩
  · cases p with
    | zero => simp at h2; subst h2; exact fb
    | succ p => exact f.1 p c a (by simpa using h1) (by simpa using h2)
  · cases p with
    | zero =>
      cases q with
      | zero => exact absurd rfl ne
      | succ q => simp at h3; subst h3; simpa using hn q c' (by simpa using h2)
    | succ p =>
      cases q with
      | zero => simp; intro z; subst z; exact hn p c (by simpa using h1) (by simpa using h3)
      | succ q => simpa using f.2 p q c c' a (by omega) (by simpa using h1) (by simpa using h2) (by simpa using h3)
theorem slots_mem : ∀ {ags : List Ag} {p i : Nat}, ags[p]? = some (.sl i) → i ∈ slots ags
  | [], p, i, h => by simp at h
  | a :: r, 0, i, h => by simp at h; subst h; simp [slots]
  | a :: r, p + 1, i, h => by
    have := slots_mem (p := p) (i := i) (ags := r) (by simpa using h)
    cases a <;> simp [slots, this]
theorem slots_inj : ∀ {ags : List Ag} {p q i : Nat}, (slots ags).Nodup → ags[p]? = some (.sl i) → ags[q]? = some (.sl i) → p = q
  | [], p, q, i, _, h, _ => by simp at h
  | a :: r, 0, 0, i, _, _, _ => rfl
  | a :: r, 0, q + 1, i, nd, h1, h2 => by
    simp at h1; subst h1
    have := slots_mem (p := q) (i := i) (ags := r) (by simpa using h2)
    simp [slots] at nd
    exact absurd this nd.1
  | a :: r, p + 1, 0, i, nd, h1, h2 => by
    simp at h2; subst h2
    have := slots_mem (p := p) (i := i) (ags := r) (by simpa using h1)
    simp [slots] at nd
    exact absurd this nd.1
  | a :: r, p + 1, q + 1, i, nd, h1, h2 => by
    have nd' : (slots r).Nodup := by cases a <;> simp [slots] at nd <;> first | exact nd | exact nd.2
    rw [slots_inj (p := p) (q := q) (i := i) nd' (by simpa using h1) (by simpa using h2)]
/-- what putBack does, slot by slot -/
theorem putBack_spec : ∀ (ags : List Ag) (os : List OC) (ρ : Env), (slots ags).Nodup →
    (putBack ags os ρ).length = ρ.length ∧
    (∀ (j : Nat), (j ∉ slots ags ∨ isOwn (ρ.getD j .no) = false) → (putBack ags os ρ)[j]? = ρ[j]?) ∧
    (∀ (p j : Nat) (xs : OC), ags[p]? = some (Ag.sl j) → ρ[j]? = some (.cell xs) → ∃ ys, (putBack ags os ρ)[j]? = some (.cell ys) ∧ (replOwn (ags.map (toSl ρ)) os)[p]? = some (.cell ys))
  | [], os, ρ, _ => ⟨rfl, fun _ _ => rfl, fun p j xs h => by simp at h⟩
  | .d x :: r, os, ρ, nd => by
    obtain ⟨h0, h1, h2⟩ := putBack_spec r os ρ nd
    refine ⟨h0, h1, fun p j xs e1 e2 => ?_⟩
    cases p with
    | zero => simp at e1
    | succ p =>
      obtain ⟨ys, q1, q2⟩ := h2 p j xs (by simpa using e1) e2
      exact ⟨ys, q1, by simpa [toSl, replOwn] using q2⟩
  | .tmp c :: r, os, ρ, nd => by
    obtain ⟨h0, h1, h2⟩ := putBack_spec r (os.drop 1) ρ nd
    refine ⟨h0, h1, fun p j xs e1 e2 => ?_⟩
    cases p with
    | zero => simp at e1
    | succ p =>
      obtain ⟨ys, q1, q2⟩ := h2 p j xs (by simpa using e1) e2
      refine ⟨ys, q1, ?_⟩
      cases os with
      | nil => simpa [toSl, replOwn] using q2
      | cons o os => simpa [toSl, replOwn] using q2
  | .sl i :: r, os, ρ, nd => by
    have ndr : (slots r).Nodup := by simp [slots] at nd; exact nd.2
    have nir : i ∉ slots r := by simp [slots] at nd; exact nd.1
    cases e : ρ.getD i .no with
    | cell xs0 =>
      have ei : ρ[i]? = some (.cell xs0) := by
        rw [List.getD_eq_getElem?_getD] at e
        cases q : ρ[i]? with
        | none => rw [q] at e; cases e
        | some s => rw [q] at e; simpa using e
      have hi : i < ρ.length := (List.getElem?_eq_some_iff.mp ei).1
      cases os with
      | nil =>
        have pe : putBack (.sl i :: r) [] ρ = putBack r [] ρ := by simp only [putBack, e]
        rw [pe]
        obtain ⟨h0, h1, h2⟩ := putBack_spec r [] ρ ndr
        refine ⟨h0, fun j hj => h1 j ?_, fun p j xs e1 e2 => ?_⟩
        · rcases hj with hj | hj
          · exact .inl fun z => hj (by simp [slots, z])
          · exact .inr hj
        · cases p with
          | zero =>
            simp at e1; subst e1
            refine ⟨xs, by rw [h1 i (.inl nir)]; exact e2, ?_⟩
            rw [ei] at e2; cases e2
            simp only [List.map_cons, toSl, e, replOwn, List.getElem?_cons_zero]
          | succ p =>
            obtain ⟨ys, q1, q2⟩ := h2 p j xs (by simpa using e1) e2
            exact ⟨ys, q1, by rw [List.map_cons]; simp only [toSl, e, replOwn, List.getElem?_cons_succ]; exact q2⟩
      | cons o os =>
        have pe : putBack (.sl i :: r) (o :: os) ρ = putBack r os (ρ.set i (.cell o)) := by simp only [putBack, e]
        rw [pe]
        obtain ⟨h0, h1, h2⟩ := putBack_spec r os (ρ.set i (.cell o)) ndr
        refine ⟨by rw [h0, List.length_set], fun j hj => ?_, fun p j xs e1 e2 => ?_⟩
        · have ne : i ≠ j := fun z => by
            subst z
            rcases hj with hj | hj
            · exact hj (by simp [slots])
            · rw [e] at hj; simp [isOwn] at hj
          rw [h1 j ?_, List.getElem?_set_ne ne]
          rcases hj with hj | hj
          · exact .inl fun z => hj (by simp [slots, z])
          · refine .inr ?_
            rw [List.getD_eq_getElem?_getD, List.getElem?_set_ne ne, ← List.getD_eq_getElem?_getD]; exact hj
        · cases p with
          | zero =>
            simp at e1; subst e1
            refine ⟨o, by rw [h1 i (.inl nir), List.getElem?_set_self hi], ?_⟩
            simp only [List.map_cons, toSl, e, replOwn, List.getElem?_cons_zero]
          | succ p =>
            have e1' : r[p]? = some (.sl j) := by simpa using e1
            have ne : i ≠ j := fun z => nir (by rw [z]; exact slots_mem e1')
            obtain ⟨ys, q1, q2⟩ := h2 p j xs e1' (by rw [List.getElem?_set_ne ne]; exact e2)
            refine ⟨ys, q1, ?_⟩
            have em : r.map (toSl (ρ.set i (.cell o))) = r.map (toSl ρ) := List.map_congr_left fun a ha => by
              cases a with
              | d x => rfl
              | tmp c => rfl
              | sl k =>
                have nk : i ≠ k := fun z => by
                  subst z
                  obtain ⟨q, hq, e3⟩ := List.mem_iff_getElem.mp ha
                  exact nir (slots_mem (p := q) (by rw [List.getElem?_eq_getElem hq, e3]))
                show (ρ.set i (.cell o)).getD k .no = ρ.getD k .no
                rw [List.getD_eq_getElem?_getD, List.getElem?_set_ne nk, ← List.getD_eq_getElem?_getD]
            rw [em] at q2
            rw [List.map_cons]; simp only [toSl, e, replOwn, List.getElem?_cons_succ]; exact q2
    | _ =>
      have pe : putBack (.sl i :: r) os ρ = putBack r os ρ := by simp only [putBack, e]
      rw [pe]
      obtain ⟨h0, h1, h2⟩ := putBack_spec r os ρ ndr
      refine ⟨h0, fun j hj => ?_, fun p j xs e1 e2 => ?_⟩
      · by_cases z : j ∈ slots r
        · refine h1 j (.inr ?_)
          rcases hj with hj | hj
          · exact absurd (by simp [slots, z]) hj
          · exact hj
        · exact h1 j (.inl z)
      · cases p with
        | zero =>
          simp at e1; subst e1
          rw [List.getD_eq_getElem?_getD, e2] at e
          simp at e
        | succ p =>
          obtain ⟨ys, q1, q2⟩ := h2 p j xs (by simpa using e1) e2
          exact ⟨ys, q1, by rw [List.map_cons]; simp only [toSl, e, replOwn, List.getElem?_cons_succ]; exact q2⟩
end DL
end
section
namespace DL
open PySem PySem.Spec L2
open PyProof.Rows hiding St

theorem slots_at {i : Nat} : ∀ {ags : List Ag}, i ∈ slots ags → ∃ p : Nat, ags[p]? = some (Ag.sl i)
  | [], h => by simp [slots] at h
  | .d x :: l, h => by
    obtain ⟨p, hp⟩ := slots_at (ags := l) (by simpa [slots] using h)
    exact ⟨p + 1, by simpa using hp⟩
  | .tmp x :: l, h => by
    obtain ⟨p, hp⟩ := slots_at (ags := l) (by simpa [slots] using h)
    exact ⟨p + 1, by simpa using hp⟩
  | .sl j :: l, h => by
    simp only [slots, List.mem_cons] at h
    rcases h with rfl | h
    · exact ⟨0, rfl⟩
    · obtain ⟨p, hp⟩ := slots_at h
      exact ⟨p + 1, by simpa using hp⟩
theorem putBack_own {ags : List Ag} {os : List OC} {ρ : DL.Env} (nd : (slots ags).Nodup) {j : Nat} {ys : OC} (h : (putBack ags os ρ)[j]? = some (.cell ys)) : ∃ xs, ρ[j]? = some (.cell xs) := by
  obtain ⟨h0, h1, h2⟩ := putBack_spec ags os ρ nd
  by_cases hj : j ∈ slots ags ∧ isOwn (ρ.getD j .no) = true
  · have ho := hj.2
    rw [List.getD_eq_getElem?_getD] at ho
    cases q : ρ[j]? with
    | none => rw [q] at ho; simp [isOwn] at ho
    | some s =>
      rw [q] at ho
      cases s with
      | cell xs => exact ⟨xs, rfl⟩
      | _ => simp [isOwn] at ho
  · have hj : j ∉ slots ags ∨ isOwn (ρ.getD j .no) = false := by
      by_cases a : j ∈ slots ags
      · right
        cases b : isOwn (ρ.getD j .no) with
        | false => rfl
        | true => exact absurd ⟨a, b⟩ hj
      · exact .inl a
    exact ⟨ys, by rw [← h1 j hj]; exact h⟩
/-- the caller's state behind a call -/
theorem after_call {G : Gh} {σ : L2.St} {H H' : Hp} {ρ : DL.Env} {vs : List V} {ags : List Ag} {os : List OC} (k : StOk G σ H ρ) (r : AgOk G.m σ H vs ags) (fr : FrAg G σ ρ vs ags) (nd : (slots ags).Nodup) (kp : Keeps vs (ags.map (toSl ρ)) H H') (st : Stable H H')
    (a : ArgOk G.m G.ex vs H' (replOwn (ags.map (toSl ρ)) os)) : StOk G σ H' (putBack ags os ρ) := by
  obtain ⟨h0, h1, h2⟩ := putBack_spec ags os ρ nd
  have gd : ∀ {j : Nat} {s : Sl}, ρ[j]? = some s → ρ.getD j .no = s := fun {j s} h => by rw [List.getD_eq_getElem?_getD, h]; rfl
  -- a slot is an own argument's, or as it was
  have cases_ : ∀ (j : Nat), (putBack ags os ρ)[j]? = ρ[j]? ∨ ∃ (p : Nat) (xs ys : OC), ags[p]? = some (.sl j) ∧ ρ[j]? = some (.cell xs) ∧ (putBack ags os ρ)[j]? = some (.cell ys) ∧ (replOwn (ags.map (toSl ρ)) os)[p]? = some (.cell ys) := fun j => by
    by_cases hj : j ∈ slots ags
    · cases ho : isOwn (ρ.getD j .no) with
      | false => exact .inl (h1 j (.inr ho))
      | true =>
        have e : ∃ xs, ρ[j]? = some (.cell xs) := by
          rw [List.getD_eq_getElem?_getD] at ho
          cases q : ρ[j]? with
          | none => rw [q] at ho; simp [isOwn] at ho
          | some s =>
            rw [q] at ho
            cases s with
            | cell xs => exact ⟨xs, rfl⟩
            | _ => simp [isOwn] at ho
        obtain ⟨xs, e⟩ := e
        have ex := slots_at hj
        obtain ⟨p, hp⟩ := ex
        obtain ⟨ys, q1, q2⟩ := h2 p j xs hp e
        exact .inr ⟨p, xs, ys, hp, e, q1, q2⟩
    · exact .inl (h1 j (.inl hj))
  have own0 : ∀ (j : Nat) (ys : OC), (putBack ags os ρ)[j]? = some (.cell ys) → ∃ xs, ρ[j]? = some (.cell xs) := fun j ys h => by
    rcases cases_ j with e | ⟨p, xs, _, _, e, _⟩
    · exact ⟨ys, by rw [← e]; exact h⟩
    · exact ⟨xs, e⟩
  have notarg : ∀ (b : Addr), (∀ (j : Nat) (xs : OC), ρ[j]? = some (.cell xs) → j ∈ slots ags → σ[j]? ≠ some (some (.ref b))) → (∀ a, Fresh G σ ρ a → a ≠ b) → ∀ (p : Nat) (xs : OC), (ags.map (toSl ρ))[p]? = some (.cell xs) → vs[p]? ≠ some (.ref b) := fun b hb hb2 p xs hp hv => by
    rw [List.getElem?_map] at hp
    cases q : ags[p]? with
    | none => rw [q] at hp; cases hp
    | some ag =>
      rw [q] at hp
      cases ag with
      | d x => simp [toSl] at hp
      | tmp c => exact hb2 b (fr.1 p c b q hv) rfl
      | sl i =>
        have hp : ρ.getD i .no = .cell xs := by simpa [toSl] using hp
        obtain ⟨v, e1, e2⟩ := r.atS q
        rw [hv] at e1; cases e1
        have ei : ρ[i]? = some (.cell xs) := by
          rw [List.getD_eq_getElem?_getD] at hp
          cases z : ρ[i]? with
          | none => rw [z] at hp; cases hp
          | some s => rw [z] at hp; simpa using hp
        exact hb i xs ei (slots_mem q) e2
  refine ⟨by rw [k.len, h0], fun j x h => ?_, fun j ys h => ?_, fun i j xs ys b ne e1 e2 e3 => ?_, fun p hp => ?_, fun b o e1 e2 => ?_, fun j c h => ?_⟩
  · rcases cases_ j with e | ⟨p, xs, ys, _, _, e, _⟩
    · obtain ⟨v, q1, q2⟩ := k.dat j x (by rw [← e]; exact h)
      exact ⟨v, q1, q2.st st⟩
    · rw [e] at h; cases h
  · rcases cases_ j with e | ⟨p, xs, zs, e1, e2, e3, e4⟩
    · have hj : ρ[j]? = some (.cell ys) := by rw [← e]; exact h
      by_cases hs : j ∈ slots ags
      · -- it is an argument, and stands as it stood
        obtain ⟨p, hp⟩ := slots_at hs
        obtain ⟨zs, q1, q2⟩ := h2 p j ys hp hj
        rw [h] at q1; cases q1
        obtain ⟨b, ws0, g1, g2, g3, g4⟩ := k.own j ys hj
        obtain ⟨b', ws, g5, g6, g7⟩ := a.own p ys q2
        obtain ⟨v, e5, e6⟩ := r.atS hp
        rw [g5] at e5; cases e5
        rw [g1] at e6; cases e6
        exact ⟨b, ws, g1, g6, g7, g4⟩
      · obtain ⟨b, ws, g1, g2, g3, g4⟩ := k.own j ys hj
        refine ⟨b, ws, g1, kp b _ g2 (notarg b (fun i xs hi hm z => ?_) fun a fa e => fa.2.2 j ys hj (by rw [e]; exact g1)), g3.st st, g4⟩
        have ne : i ≠ j := fun w => by subst w; exact hs hm
        exact k.sep i j xs ys b ne hi hj z g1
    · rw [h] at e3; cases e3
      obtain ⟨b, ws0, g1, g2, g3, g4⟩ := k.own j xs e2
      obtain ⟨b', ws, g5, g6, g7⟩ := a.own p ys e4
      obtain ⟨v, e5, e6⟩ := r.atS e1
      rw [g5] at e5; cases e5
      rw [g1] at e6; cases e6
      exact ⟨b, ws, g1, g6, g7, g4⟩
  · obtain ⟨u1, o1⟩ := own0 i xs e1
    obtain ⟨u2, o2⟩ := own0 j ys e2
    exact k.sep i j u1 u2 b ne o1 o2 e3
  · obtain ⟨q1, xs, q2⟩ := k.prot p hp
    refine ⟨q1, ?_⟩
    rcases cases_ p.1 with e | ⟨_, _, ys, _, _, e, _⟩
    · exact ⟨xs, by rw [e]; exact q2⟩
    · exact ⟨ys, e⟩
  · refine kp b o (k.keep b o e1 e2) (notarg b (fun i xs hi _ z => ?_) fun a fa e => by subst e; rw [fa.1] at e1; cases e1)
    obtain ⟨b', ws, g1, _, _, g4⟩ := k.own i xs hi
    rw [z] at g1; cases g1
    by_cases c : ∀ p ∈ G.pr, p.1 ≠ i
    · have q := (g4 c).1
      rw [e1] at q; cases q
    · apply c
      intro p hp w
      obtain ⟨q1, _⟩ := k.prot p hp
      rw [w, z] at q1
      injection q1 with q1; injection q1 with q1; injection q1 with q1
      exact e2 p hp q1.symm
  · rcases cases_ j with e | ⟨p, xs, ys, _, _, e, _⟩
    · exact k.exn j c (by rw [← e]; exact h)
    · rw [e] at h; cases h

/-! ### arguments of a def's call -/
def gT (G : Gh) (W : WX) (f : M (List Ag)) : TA := fun σ H Q => ∃ ρ, StOk G σ H ρ ∧ postG G W σ H (f ρ) fun ags ρ' H' => ∀ vs, AgOk G.m σ H' vs ags → FrAg G σ ρ' vs ags → Q vs H'
def DG (X : Cx) (G : Gh) (W : WX) (es : List Expr) (f : M (List Ag)) : Prop := PA X es (gT G W f)
def consA (f : M D) (g : M (List Ag)) : M (List Ag) := bindM f fun x => bindM g fun r => pureM (.d x :: r)
def consS (i : Nat) (g : M (List Ag)) : M (List Ag) := bindM g fun r => pureM (.sl i :: r)
/-- ags to a call -/
def callM (f : Fn) (fa : M (List Ag)) : M D := bindM fa fun ags ρ => if (slots ags).Nodup then (match f (ags.map (toSl ρ)) with
  | .ok d os => .ok d (putBack ags os ρ)
  | .exc c os => .exc c (putBack ags os ρ)
  | .stuck => .stuck) else .stuck
def callL (f : Fn) (fa : M (List Ag)) : M (List D) := bindM (callM f fa) fun d => match d with
  | .lst ds => pureM ds
  | _ => stuckM
section
variable {X : Cx} {G : Gh} {W : WX} {e : Expr} {es : List Expr} {pos : Pos}
theorem dg_nil : DG X G W [] (pureM []) := pa_imp pa_nil fun σ H Q ⟨ρ, k, q⟩ => q H Stable.rfl k _ .nil .nil
theorem dg_d {f : M D} {g : M (List Ag)} (ha : DE X G W e f) (hr : DG X G W es g) (hs : starEach (e :: es) X.env = (false, eval e X.env) :: starEach es X.env := by rfl) : DG X G W (e :: es) (consA f g) :=
  pa_imp (pa_cons ha hr hs) fun σ H Q ⟨ρ, k, q⟩ => ⟨ρ, k, q.bind.mono fun x ρ1 H1 _ s1 k1 q1 v r => ⟨ρ1, k1, q1.bind.mono fun xs ρ2 H2 _ s2 k2 q2 vs rs fs => q2 H2 Stable.rfl k2 _ (.d (r.st s2) rs) (fs.cons fun c z => by cases z)⟩⟩
/-- the slot is own (or the handled exception) when the call comes -/
def haveS (i : Nat) : M Unit := fun ρ => match ρ[i]? with
  | some (.cell _) => .ok () ρ
  | some (.exn _) => .ok () ρ
  | _ => .stuck
/-- the arguments as the callee meets them -/
theorem ag_arg {σ : L2.St} {H : Hp} {ρ : DL.Env} {vs : List V} {ags : List Ag} (k : StOk G σ H ρ) (r : AgOk G.m σ H vs ags) (fr : FrAg G σ ρ vs ags) (nd : (slots ags).Nodup) : ArgOk G.m G.ex vs H (ags.map (toSl ρ)) := by
  have at_ : ∀ (i : Nat) (s : Sl), s ≠ .no → (ags.map (toSl ρ))[i]? = some s → (∃ x, s = .d x ∧ ags[i]? = some (.d x)) ∨ (∃ j, ags[i]? = some (.sl j) ∧ ρ[j]? = some s) ∨ ∃ c, s = .cell c ∧ ags[i]? = some (.tmp c) := fun i s hs h => by
    rw [List.getElem?_map] at h
    cases q : ags[i]? with
    | none => rw [q] at h; cases h
    | some ag =>
      rw [q] at h
      cases ag with
      | d x => simp [toSl] at h; exact .inl ⟨x, h.symm, rfl⟩
      | tmp c => simp [toSl] at h; exact .inr (.inr ⟨c, h.symm, rfl⟩)
      | sl j =>
        refine .inr (.inl ⟨j, rfl, ?_⟩)
        have h : ρ.getD j .no = s := by simpa [toSl] using h
        rw [List.getD_eq_getElem?_getD] at h
        cases z : ρ[j]? with
        | none => rw [z] at h; exact absurd h.symm hs
        | some t => rw [z] at h; simpa using h
  refine ⟨by rw [List.length_map]; exact r.len, fun i x h => ?_, fun i xs h => ?_, fun i j xs ys a ne h1 h2 h3 h4 => ?_, fun i c h => ?_⟩
  · rcases at_ i _ (fun z => by cases z) h with ⟨y, e, q⟩ | ⟨j, q, e⟩ | ⟨c, e, _⟩
    · cases e; exact r.atD q
    rotate_left
    · cases e
    · obtain ⟨v, e1, e2⟩ := r.atS q
      obtain ⟨w, e3, e4⟩ := k.dat j x e
      rw [e2] at e3; cases e3
      exact ⟨v, e1, e4⟩
  · rcases at_ i _ (fun z => by cases z) h with ⟨y, e, q⟩ | ⟨j, q, e⟩ | ⟨c, e, q⟩
    · cases e
    · obtain ⟨v, e1, e2⟩ := r.atS q
      obtain ⟨a, ws, e3, e4, e5, _⟩ := k.own j xs e
      rw [e2] at e3; cases e3
      exact ⟨a, ws, e1, e4, e5⟩
    · cases e; exact r.atT q
  · rcases at_ i _ (fun z => by cases z) h1 with ⟨y, e, q⟩ | ⟨i', q, e⟩ | ⟨c, e, q⟩
    · cases e
    · rcases at_ j _ (fun z => by cases z) h2 with ⟨y, e', q'⟩ | ⟨j', q', e'⟩ | ⟨c', e', q'⟩
      · cases e'
      · obtain ⟨v, e1, e2⟩ := r.atS q
        obtain ⟨v', e1', e2'⟩ := r.atS q'
        rw [h3] at e1; cases e1
        rw [h4] at e1'; cases e1'
        have ne' : i' ≠ j' := fun z => by subst z; exact ne (slots_inj nd q q')
        exact k.sep i' j' xs ys a ne' e e' e2 e2'
      · obtain ⟨v, e1, e2⟩ := r.atS q
        rw [h3] at e1; cases e1
        exact (fr.1 j c' a q' h4).2.2 i' xs e e2
    · rcases at_ j _ (fun z => by cases z) h2 with ⟨y, e', q'⟩ | ⟨j', q', e'⟩ | ⟨c', e', q'⟩
      · cases e'
      · obtain ⟨v', e1', e2'⟩ := r.atS q'
        rw [h4] at e1'; cases e1'
        exact (fr.1 i c a q h3).2.2 j' ys e' e2'
      · exact fr.2 i j c c' a ne q q' h3 h4
  · rcases at_ i _ (fun z => by cases z) h with ⟨y, e, q⟩ | ⟨j, q, e⟩ | ⟨c', e, _⟩
    · cases e
    rotate_left
    · cases e
    · obtain ⟨v, e1, e2⟩ := r.atS q
      obtain ⟨a, e3, e4⟩ := k.exn j c e
      rw [e2] at e4; cases e4
      exact ⟨a, e3, e1⟩
theorem call_run {md : List Bool} {rm : RM} {f : Fn} {σ : L2.St} {H : Hp} {ρ : DL.Env} {vs : List V} {ags : List Ag} {Q : VK} {R : D → DL.Env → Hp → Prop} (hex : G.ex = none) (k : StOk G σ H ρ) (r : AgOk G.m σ H vs ags) (fr : FrAg G σ ρ vs ags) (hmd : ∀ ρ', ρ' = ags.map (toSl ρ) → ρ'.map isOwn = md)
    (q : postG G W σ H (if (slots ags).Nodup then (match f (ags.map (toSl ρ)) with
      | .ok d os => .ok d (putBack ags os ρ)
      | .exc c os => .exc c (putBack ags os ρ)
      | .stuck => .stuck) else .stuck) R) (hQ : ∀ d ρ' v H', Stable H H' → StOk G σ H' ρ' → (∀ (i : Nat) ys, ρ'[i]? = some (Sl.cell ys) → ∃ xs, ρ[i]? = some (Sl.cell xs)) → RetF rm G.m H H' v d → R d ρ' H' → Q v H') : spD G.m none md rm f vs H Q (WE W σ) := by
  by_cases nd : (slots ags).Nodup
  · rw [if_pos nd] at q
    refine ⟨ags.map (toSl ρ), hmd _ rfl, by have := ag_arg k r fr nd; rw [hex] at this; exact this, ?_⟩
    cases e : f (ags.map (toSl ρ)) with
    | ok d os =>
      rw [e] at q
      intro v H' kp st a rf
      have k' := after_call k r fr nd kp st (by rw [hex]; exact a)
      exact hQ d _ v H' st k' (fun i ys h => putBack_own nd h) rf (q H' st k')
    | exc c os =>
      rw [e] at q
      intro C H' e kp st a
      have k' := after_call k r fr nd kp st (by rw [hex]; exact a)
      exact q C H' e st k'
    | stuck => rw [e] at q; exact q.elim
  · rw [if_neg nd] at q; exact q.elim
/-- which slots the arguments hand on by reference: a check -/
def mdM (md : List Bool) (fa : M (List Ag)) : M (List Ag) := bindM fa fun ags ρ => if (ags.map (toSl ρ)).map isOwn = md then .ok ags ρ else .stuck
variable {CX : CXT} {kk : Nat} {fA : Addr} {fd : FuncData} {ps : List Str} {md : List Bool} {f : Fn} {x : Str} {p : Pos}
theorem mdM_run {fa : M (List Ag)} {σ : L2.St} {H : Hp} {ρ : DL.Env} {β : Type} {kf : List Ag → M β} {R : β → DL.Env → Hp → Prop} (q : postG G W σ H (bindM (mdM md fa) kf ρ) R) :
    postG G W σ H (fa ρ) fun ags ρ1 H1 => (ags.map (toSl ρ1)).map isOwn = md ∧ postG G W σ H1 (kf ags ρ1) R := by
  unfold mdM bindM at q
  cases e : fa ρ with
  | ok ags ρ1 =>
    rw [e] at q
    by_cases h : (ags.map (toSl ρ1)).map isOwn = md
    · intro H1 s1 k1
      refine ⟨h, ?_⟩
      simp only [h, if_true] at q
      exact postG.from s1 q
    · simp only [h, if_false] at q; exact q.elim
  | exc c ρ1 => rw [e] at q; exact q
  | stuck => rw [e] at q; exact q
theorem de_call {fa : M (List Ag)} (hex : G.ex = none) (hm0 : G.m = ⟨X.K, X.mg, X.w⟩) (tk : Takes X W) (F : FnOk X.prog X.w X.K X.mg X.base (L2.CX X.prog X.w) kk fA fd ps (spD ⟨X.K, X.mg, X.w⟩ none md .f f)) (hr : Room kk X.A) (hg : Gl X x) (hm : X.mg x = some (.ref fA)) (hk : PySem.W.keepIn X.K (.ref fA) = true) (hb : Binds X.K fd ps [])
    (ha : DG X G W (e :: es) fa) (hdb : (x == ("__debug__" : Str)) = false := by decide) (he : starEach (e :: es) X.env = (false, eval e X.env) :: starEach es X.env := by rfl) (hpl : (backTo pos (starEach es X.env)).any (·.1) = false := by rfl) :
    DE X G W (.Call (.Name x p) (e :: es) [] pos) (callM f (mdM md fa)) :=
  pe_imp (pe_callS F hr hg hm hk hb (fun σ => passAt tk σ) ha hdb he hpl) fun σ H Q ⟨ρ, k, q⟩ => ⟨ρ, k, (mdM_run q).mono fun ags ρ1 H1 _ s1 k1 q1 vs rs fs => by
    rw [← hm0]
    exact call_run hex k1 rs fs (fun ρ' e => by rw [e]; exact q1.1) q1.2 fun d ρ' v H' _ _ _ rf h => h v rf⟩
end
end DL
end
section
namespace DL
open PySem PySem.Spec L2
open PyProof.Rows hiding St

abbrev W0 : WX := fun _ _ _ _ => False
theorem takes0 {X : Cx} : Takes X W0 := fun u s' ⟨_, _, _, _, _, _, _, _, _, _, _, _, _, _, _, _, w⟩ => w.elim

/-! ### targets -/
abbrev TgF := D → DL.Env → Option DL.Env
def SameBut (js : List Nat) (σ σ' : L2.St) : Prop := σ'.length = σ.length ∧ ∀ j, j ∉ js → σ'[j]? = σ[j]?
def tgT (G : Gh) (js : List Nat) (t : TgF) : TG := fun v σ H Q => ∃ ρ d ρ', StOk G σ H ρ ∧ Rep G.m H v d ∧ t d ρ = some ρ' ∧ ∀ σ' H', SameBut js σ σ' → Stable H H' → StOk G σ' H' ρ' → Q σ' H'
def DGt (X : Cx) (G : Gh) (tg : Expr) (js : List Nat) (t : TgF) : Prop := PG X tg (tgT G js t)
abbrev TgsF := List D → DL.Env → Option DL.Env
def tgsT (G : Gh) (js : List Nat) (t : TgsF) : TGs := fun vs σ H Q => ∃ ρ ds ρ', StOk G σ H ρ ∧ RepL G.m H vs ds ∧ t ds ρ = some ρ' ∧ ∀ σ' H', SameBut js σ σ' → Stable H H' → StOk G σ' H' ρ' → Q σ' H'
def DGts (X : Cx) (G : Gh) (tgs : List Expr) (js : List Nat) (t : TgsF) : Prop := PGs X tgs (tgsT G js t)
theorem pg_imp {X : Cx} {e : Expr} {t t' : TG} (h : PG X e t) (k : ∀ v σ H Q, t' v σ H Q → t v σ H Q) : PG X e t' := ⟨fun pins s σ H v u Q I r q => h.run pins s σ H v u Q I r (k v σ H Q q)⟩
theorem pgs_imp {X : Cx} {e : List Expr} {t t' : TGs} (h : PGs X e t) (k : ∀ v σ H Q, t' v σ H Q → t v σ H Q) : PGs X e t' := ⟨fun pins s σ H v u Q I r q => h.run pins s σ H v u Q I r (k v σ H Q q)⟩
def tgN (i : Nat) : TgF := fun d ρ => some (ρ.set i (.d d))
def tgU (n : Nat) (t : TgsF) : TgF := fun d ρ => match d with
  | .tup ds => if ds.length = n then t ds ρ else none
  | _ => none
def tgs0 : TgsF := fun ds ρ => match ds with
  | [] => some ρ
  | _ => none
def tgs1 (t : TgF) (u : TgsF) : TgsF := fun ds ρ => match ds with
  | [] => none
  | d :: r => (t d ρ).bind (u r)
section
variable {X : Cx} {G : Gh} {W : WX} {rm : RM} {pos : Pos}
theorem dg_name (i : Nat) {x : Str} (hp : pfree G i) (hN : X.N.Nodup) (hi : X.N[i]? = some x) (hx : Loc X.env.scope x) (hf : X.fn x = true ∨ X.env.scope.names.lookup x = some .local := by first | exact .inl rfl | exact .inr rfl | assumption) : DGt X G (.Name x pos) [i] (tgN i) :=
  pg_imp (pg_name hN hi hx hf) fun v σ H Q ⟨ρ, d, ρ', k, r, e, q⟩ => by
    cases e
    exact q _ _ ⟨by simp, fun j hj => by rw [List.getElem?_set_ne (fun z => hj (by simp [z]))]⟩ Stable.rfl (k.setD hp r)
theorem dgs_nil : DGts X G [] [] tgs0 := pgs_imp pgs_nil fun vs σ H Q ⟨ρ, ds, ρ', k, r, e, q⟩ => by
  cases r with
  | nil => cases e; exact ⟨rfl, q _ _ ⟨rfl, fun _ _ => rfl⟩ Stable.rfl k⟩
  | cons a b => cases e
theorem SameBut.trans {js ks : List Nat} {σ σ1 σ2 : L2.St} (a : SameBut js σ σ1) (b : SameBut ks σ1 σ2) : SameBut (js ++ ks) σ σ2 := ⟨b.1.trans a.1, fun j hj => by
  rw [b.2 j (fun z => hj (by simp [z])), a.2 j (fun z => hj (by simp [z]))]⟩
theorem dgs_cons {e : Expr} {es : List Expr} {js ks : List Nat} {t : TgF} {u : TgsF} (h1 : DGt X G e js t) (h2 : DGts X G es ks u) (hs : (assignEach (e :: es) X.env).map (·.2) = assign e X.env :: (assignEach es X.env).map (·.2) := by rfl) : DGts X G (e :: es) (js ++ ks) (tgs1 t u) :=
  pgs_imp (pgs_cons h1 h2 hs) fun vs σ H Q ⟨ρ, ds, ρ', k, r, e, q⟩ => by
    cases r with
    | nil => cases e
    | @cons v vs d ds a b =>
      have e : (t d ρ).bind (u ds) = some ρ' := e
      cases e1 : t d ρ with
      | none => rw [e1] at e; cases e
      | some ρ1 =>
        rw [e1] at e
        exact ⟨v, vs, rfl, ρ, d, ρ1, k, a, e1, fun σ1 H1 b1 s1 k1 => ⟨ρ1, ds, ρ', k1, b.st s1, e, fun σ2 H2 b2 s2 k2 => q σ2 H2 (b1.trans b2) (s1.trans s2) k2⟩⟩
theorem dg_tup {es : List Expr} {k : Nat} {js : List Nat} {t : TgsF} {n : Nat} (hK : G.m = ⟨X.K, X.mg, X.w⟩) (hc : X.calm = true) (h : DGts X G es js t) (hn : (assignEach es X.env).length = n := by rfl) (hst : (assignEach es X.env).findIdx? (·.1) = none := by rfl) : DGt X G (.Tuple es k pos) js (tgU n t) :=
  pg_imp (pg_tup hc h hn hst) fun v σ H Q ⟨ρ, d, ρ', k, r, e, q⟩ => by
    cases r with
    | @tup a vs ds hq rl =>
      have e : (if ds.length = n then t ds ρ else none) = some ρ' := e
      by_cases hl : ds.length = n
      · rw [if_pos hl] at e
        exact ⟨a, vs, rfl, by rw [hK] at hq; exact hq, by rw [rl.len]; exact hl, ρ, ds, ρ', k, rl, e, q⟩
      · rw [if_neg hl] at e; cases e
    | _ => cases e
/-- targets = e, e a tuple -/
def asgM (f : M D) (t : TgF) : MS := bindM f fun d ρ => match t d ρ with
  | some ρ' => .ok .nx ρ'
  | none => .stuck
theorem ds_asg {tg e : Expr} {f : M D} {js : List Nat} {t : TgF} (he : DE X G W e f) (hg : DGt X G tg js t) (hs : swapsWithSole [tg] e pos.line X.env = pure false := by rfl) (hw : swappedStores [tg] e X.env = pure none := by rfl)
    (h1 : (assignEach [tg] X.env).map (·.2) = [assign tg X.env] := by rfl) : DS X G W rm (.Assign [tg] e pos) (asgM f t) :=
  ps_imp (ps_asg he hg hs hw h1) fun E σ H ⟨ρ, k, q⟩ => ⟨ρ, k, q.bind.mono fun d ρ1 H1 _ s1 k1 q1 v r => by
    cases e1 : t d ρ1 with
    | none => rw [e1] at q1; exact q1.elim
    | some ρ2 =>
      rw [e1] at q1
      exact ⟨ρ1, d, ρ2, k1, r, e1, fun σ' H' _ s' k' => q1 σ' H' s' k'⟩⟩
/-- a, b = e1, e2 -/
def parM (i j : Nat) (f : M (List D)) : MS := bindM f fun ds ρ => match ds with
  | [x, y] => .ok .nx ((ρ.set i (.d x)).set j (.d y))
  | _ => .stuck
/-! ### what is walked -/
structure IterOk (m : Md) (H : Hp) (J : It) (xs : List D) : Prop where
  stop : ∀ i H', Stable H H' → xs.length ≤ i → J.stop i H'
  go : ∀ i H', Stable H H' → i < xs.length → J.go i H'
  yld : ∀ i H1 v H2, Stable H H1 → i < xs.length → J.yld i H1 v H2 → H2 = H1 ∧ ∃ d, xs[i]? = some d ∧ Rep m H1 v d
def iT (G : Gh) (W : WX) (f : M (List D)) : TI := fun σ H R => ∃ ρ, StOk G σ H ρ ∧ postG G W σ H (f ρ) fun xs _ H' => ∀ J, IterOk G.m H' J xs → R J H'
def DI (X : Cx) (G : Gh) (W : WX) (tg iter : Expr) (f : M (List D)) : Prop := PI X tg iter (iT G W f)
theorem pi_imp {tg iter : Expr} {t t' : TI} (h : PI X tg iter t) (k : ∀ σ H R, t' σ H R → t σ H R) : PI X tg iter t' := ⟨fun pins s σ H R I q => h.run pins s σ H R I (k σ H R q)⟩
theorem iter_list {m : Md} {H : Hp} {a : Addr} {vs : List V} {ds : List D} (hq : SqF m.K H a vs) (r : RepL m H vs ds) : IterOk m H (Itl m.K a) ds where
  stop := fun i H' s h => ⟨vs, (hq.st s).sq, by rw [r.len]; exact h⟩
  go := fun i H' s h => ⟨vs, vs[i]'(by rw [r.len]; exact h), (hq.st s).sq, by simp [r.len, h]⟩
  yld := fun i H1 v H2 s hi h => by
    obtain ⟨e, h⟩ := h
    have hv := h vs (hq.st s).sq
    obtain ⟨d, h1, h2⟩ := r.getV hv
    exact ⟨e, d, h1, h2.st s⟩
theorem iter_tup {m : Md} {H : Hp} {a : Addr} {vs : List V} {ds : List D} (hq : SqT m.K H a vs) (r : RepL m H vs ds) : IterOk m H (Itt m.K a) ds where
  stop := fun i H' s h => ⟨vs, SqT_st s hq, by rw [r.len]; exact h⟩
  go := fun i H' s h => ⟨vs, vs[i]'(by rw [r.len]; exact h), SqT_st s hq, by simp [r.len, h]⟩
  yld := fun i H1 v H2 s hi h => by
    obtain ⟨e, h⟩ := h
    have hv := h vs (SqT_st s hq)
    obtain ⟨d, h1, h2⟩ := r.getV hv
    exact ⟨e, d, h1, h2.st s⟩
/-- a list or a tuple, walked -/
def iAny (K : PySem.W.Frag) (tl : TE) : TI := fun σ H R => tl σ H fun x H1 => ∃ a, x = .ref a ∧ (((∃ xs, SqL K H1 a xs) ∧ R (Itl K a) H1) ∨ ((∃ xs, SqT K H1 a xs) ∧ R (Itt K a) H1))
theorem pi_any {tg l : Expr} {tl : TE} (hl : PE X l tl) : PI X tg l (iAny X.K tl) := ⟨fun pins s σ H R I h => thn (hl.run pins s σ H _ I h) fun v s1 ⟨x, H1, I1, r1, a, e, q⟩ => by
  subst e
  cases r1
  have new : ∀ b ∈ [s1.heap.objs.size], FpOk X pins H1 b := fun b hb => by
    rw [List.mem_singleton.mp hb]
    exact I1.fpOk (Nat.le_refl _) (I1.hok.fresh (Nat.le_refl _))
  rcases q with ⟨⟨xs, hq⟩, q⟩ | ⟨⟨xs, hq⟩, q⟩
  · obtain ⟨its, _, pl, _⟩ := I1.list hq
    exact wpAny_pyIter_list pl.isList ⟨_, _, _, _, H1, rfl, I1.kept (t' := s1.toks) (fun b o e => Heap.get?_push_of_some _ e), turn_list a _, ⟨_, Heap.get?_push_size _ rfl, rfl, rfl⟩, new, q⟩
  · obtain ⟨its, _, pt, _⟩ := I1.tuple hq
    exact wpAny_pyIter_tuple (items := its.toArray) pt ⟨_, _, _, _, H1, rfl, I1.kept (t' := s1.toks) (fun b o e => Heap.get?_push_of_some _ e), turn_tuple a _, ⟨_, Heap.get?_push_size _ rfl, rfl, rfl⟩, new, q⟩⟩
def itemsOf : D → Option (List D)
  | .lst xs => some xs
  | .tup xs => some xs
  | _ => none
def itemsM (f : M D) : M (List D) := bindM f fun d => liftM (itemsOf d)
theorem di_any {tg l : Expr} {f : M D} (hK : G.m = ⟨X.K, X.mg, X.w⟩) (h : DE X G W l f) : DI X G W tg l (itemsM f) := pi_imp (pi_any h) fun σ H R ⟨ρ, k, q⟩ => ⟨ρ, k, q.bind.mono fun d ρ1 H1 _ s1 k1 q1 v r => by
  have eK : G.m.K = X.K := by rw [hK]
  cases r with
  | lst hq rl => exact ⟨_, rfl, .inl ⟨⟨_, eK ▸ hq.sq⟩, q1 H1 Stable.rfl k1 _ (eK ▸ iter_list hq rl)⟩⟩
  | tup hq rl => exact ⟨_, rfl, .inr ⟨⟨_, eK ▸ hq⟩, q1 H1 Stable.rfl k1 _ (eK ▸ iter_tup hq rl)⟩⟩
  | _ => exact q1.elim⟩
def inRg (i : Int) : Bool := decide (-(2 ^ 62) ≤ i) && decide (i < 2 ^ 62)
def rg1 : List D → Option (List D)
  | [.int j] => if inRg j = true then some ((List.range j.toNat).map fun (i : Nat) => D.int (0 + (i : Int))) else none
  | _ => none
def rg2 : List D → Option (List D)
  | [.int i, .int j] => if inRg i = true ∧ inRg j = true then some ((List.range (j - i).toNat).map fun (k : Nat) => D.int (i + (k : Int))) else none
  | _ => none
def rg1M (f : M (List D)) : M (List D) := bindM f fun ds => liftM (rg1 ds)
def rg2M (f : M (List D)) : M (List D) := bindM f fun ds => liftM (rg2 ds)
theorem iter_range {m : Md} {H : Hp} {lo : Int} {n : Nat} : IterOk m H (Itr lo n) ((List.range n).map fun (k : Nat) => D.int (lo + (k : Int))) where
  stop := fun i H' s h => show n ≤ i by simpa using h
  go := fun i H' s h => show i < n by simpa using h
  yld := fun i H1 v H2 s hi h => by
    obtain ⟨e, e2⟩ := h
    subst e2
    have hi : i < n := by simpa using hi
    exact ⟨e, .int (lo + i), by simp [hi], .int _⟩
theorem inRg_iff {i : Int} (h : inRg i = true) : -(2 ^ 62) ≤ i ∧ i < 2 ^ 62 := by
  unfold inRg at h
  simpa using h
theorem rg1_inv {ds xs : List D} (h : rg1 ds = some xs) : ∃ j, ds = [.int j] ∧ inRg j = true ∧ xs = ((List.range j.toNat).map fun (i : Nat) => D.int (0 + (i : Int))) := by
  unfold rg1 at h
  split at h
  · split at h
    · rename_i j hb; cases h; exact ⟨_, rfl, hb, rfl⟩
    · cases h
  · cases h
theorem rg2_inv {ds xs : List D} (h : rg2 ds = some xs) : ∃ i j, ds = [.int i, .int j] ∧ inRg i = true ∧ inRg j = true ∧ xs = ((List.range (j - i).toNat).map fun (k : Nat) => D.int (i + (k : Int))) := by
  unfold rg2 at h
  split at h
  · split at h
    · rename_i hb; cases h; exact ⟨_, _, rfl, hb.1, hb.2, rfl⟩
    · cases h
  · cases h
theorem di_range1 {tg a : Expr} {f : M (List D)} {p : Pos} (hg : Gl X "range") (hm : X.mg "range" = none) (ha : DA X G W [a] f) (hs : starEach [a] X.env = [(false, eval a X.env)] := by rfl) : DI X G W tg (.Call (.Name "range" p) [a] [] pos) (rg1M f) :=
  pi_imp (pi_range1 hg hm ha hs) fun σ H R ⟨ρ, k, q⟩ => ⟨ρ, k, q.bind.mono fun ds ρ1 H1 _ s1 k1 q1 vs r => by
    obtain ⟨xs, e, q2⟩ := q1.lift k1
    obtain ⟨j, rfl, hb, rfl⟩ := rg1_inv e
    cases r with
    | cons r0 r =>
      cases r
      cases r0
      exact ⟨j, rfl, (inRg_iff hb).1, (inRg_iff hb).2, q2 H1 Stable.rfl k1 _ iter_range⟩⟩
theorem di_range2 {tg a b : Expr} {f : M (List D)} {p : Pos} (hg : Gl X "range") (hm : X.mg "range" = none) (ha : DA X G W [a, b] f) (hs : starEach [a, b] X.env = [(false, eval a X.env), (false, eval b X.env)] := by rfl) (hs2 : starEach [b] X.env = [(false, eval b X.env)] := by rfl) : DI X G W tg (.Call (.Name "range" p) [a, b] [] pos) (rg2M f) :=
  pi_imp (pi_range2 hg hm ha hs hs2) fun σ H R ⟨ρ, k, q⟩ => ⟨ρ, k, q.bind.mono fun ds ρ1 H1 _ s1 k1 q1 vs r => by
    obtain ⟨xs, e, q2⟩ := q1.lift k1
    obtain ⟨i, j, rfl, hi, hj, rfl⟩ := rg2_inv e
    cases r with
    | cons r0 r =>
      cases r with
      | cons r1 r =>
        cases r
        cases r0
        cases r1
        exact ⟨i, j, rfl, ⟨(inRg_iff hi).1, (inRg_iff hi).2, (inRg_iff hj).1, (inRg_iff hj).2⟩, q2 H1 Stable.rfl k1 _ iter_range⟩⟩

/-! ### for -/
def forM (tg : TgF) (body : MS) : List D → MS
  | [] => skipM
  | x :: xs => fun ρ => match tg x ρ with
    | none => .stuck
    | some ρ1 => match body ρ1 with
      | .ok .nx ρ2 => forM tg body xs ρ2
      | .ok .ct ρ2 => forM tg body xs ρ2
      | .ok .brk ρ2 => .ok .nx ρ2
      | r => r
def forD (it : M (List D)) (tg : TgF) (body : MS) : MS := bindM it fun xs => forM tg body xs
theorem ds_for {tg iter : Expr} {body : List Stmt} {f : M (List D)} {js : List Nat} {t : TgF} {b : MS} (hp : PassesOwn (model X.prog X.w) X.A X.env X.xe) (hc : X.calm = true) (hi : DI X G W tg iter f) (hg : DGt X G tg js t) (hb : DSs X G W rm body b)
    (hs : ∀ x, foldedSetIterable iter X.env x = pure x := by intro _; rfl) : DS X G W rm (.For tg iter body [] pos) (forD f t b) :=
  ps_imp (ps_for hp hc hi hg hb hs) fun E σ H ⟨ρ, k, q⟩ => ⟨ρ, k, q.bind.mono fun xs ρ1 H1 _ s1 k1 q1 J io => by
    refine ⟨fun i m σ' H' => m = xs.length - i ∧ i ≤ xs.length ∧ Stable H1 H' ∧ ∃ ρ', StOk G σ' H' ρ' ∧ postS G W rm H' (forM t b (xs.drop i) ρ') E, ⟨_, rfl, Nat.zero_le _, Stable.rfl, ρ1, k1, q1⟩, ?_⟩
    rintro i m σ' H' ⟨rfl, hi, st, ρ', k', q'⟩
    by_cases hlt : i < xs.length
    · refine .inr ⟨io.go i H' st hlt, fun σ2 H2 => Stable H1 H2 ∧ ∃ ρ2, StOk G σ2 H2 ρ2 ∧ postS G W rm H2 (forM t b (xs.drop (i + 1)) ρ2) E, fun σ2 H2 ⟨w1, w2⟩ => ⟨xs.length - (i + 1), by omega, rfl, hlt, w1, w2⟩, fun v H2 y => ?_⟩
      obtain ⟨e, d, hd, rd⟩ := io.yld i H' v H2 st hlt y
      subst e
      have ed : xs.drop i = d :: xs.drop (i + 1) := by
        rw [List.drop_eq_getElem_cons hlt]
        rw [List.getElem?_eq_getElem hlt] at hd
        injection hd with hd
        rw [hd]
      rw [ed] at q'
      unfold forM at q'
      cases e1 : t d ρ' with
      | none => simp only [e1] at q'; exact q'.elim
      | some ρ2 =>
        simp only [e1] at q'
        refine ⟨ρ', d, ρ2, k', rd, e1, fun σ3 H3 _ s3 k3 => ⟨ρ2, k3, ?_⟩⟩
        cases e2 : b ρ2 with
        | ok fl ρ4 =>
          simp only [e2] at q'
          cases fl with
          | nx => exact fun σ5 H5 s5 k5 => ⟨st.trans (s3.trans s5), ρ4, k5, q'.from (s3.trans s5)⟩
          | ct => exact fun σ5 H5 s5 k5 => ⟨st.trans (s3.trans s5), ρ4, k5, q'.from (s3.trans s5)⟩
          | brk => exact fun σ5 H5 s5 k5 => q' σ5 H5 (s3.trans s5) k5
          | ret d => exact fun v σ5 H5 s5 k5 => q' v σ5 H5 (s3.trans s5) k5
        | exc c ρ4 =>
          simp only [e2] at q'
          exact fun σ5 C H5 e5 s5 k5 => q' σ5 C H5 e5 (s3.trans s5) k5
        | stuck => simp only [e2] at q'; exact q'.elim
    · have e : i = xs.length := by omega
      subst e
      rw [List.drop_length] at q'
      exact .inl ⟨io.stop _ H' st (Nat.le_refl _), q' σ' H' Stable.rfl k'⟩⟩

/-! ### while: n turns at most -/
def whileM (c : M Bool) (body : MS) : Nat → MS
  | 0 => fun _ => .stuck
  | n + 1 => bindM c fun b => match b with
    | false => skipM
    | true => fun ρ1 => match body ρ1 with
      | .ok .nx ρ2 => whileM c body n ρ2
      | .ok .ct ρ2 => whileM c body n ρ2
      | .ok .brk ρ2 => .ok .nx ρ2
      | r => r
theorem ds_while (n : Nat) {c : Expr} {body : List Stmt} {t : M Bool} {b : MS} (hp : PassesOwn (model X.prog X.w) X.A X.env X.xe) (hc : DT X G W c t) (hb : DSs X G W rm body b) : DS X G W rm (.While c body [] pos) (whileM t b n) :=
  ps_imp (ps_while hp hc hb) fun E σ H ⟨ρ, k, q⟩ => by
    refine ⟨fun m σ' H' => ∃ ρ', StOk G σ' H' ρ' ∧ postS G W rm H' (whileM t b m ρ') E, ⟨n, ρ, k, q⟩, ?_⟩
    rintro m σ' H' ⟨ρ', k', q'⟩
    cases m with
    | zero => exact q'.elim
    | succ m =>
      unfold whileM at q'
      refine ⟨ρ', k', q'.bind.mono fun c ρ1 H1 _ s1 k1 q1 => ?_⟩
      cases c with
      | false => rw [if_neg (by decide)]; exact q1 σ' H1 Stable.rfl k1
      | true =>
        rw [if_pos rfl]
        refine ⟨fun σ2 H2 => ∃ ρ2, StOk G σ2 H2 ρ2 ∧ postS G W rm H2 (whileM t b m ρ2) E, fun σ2 H2 w => ⟨m, by omega, w⟩, ρ1, k1, ?_⟩
        cases e2 : b ρ1 with
        | ok fl ρ4 =>
          simp only [e2] at q1
          cases fl with
          | nx => exact fun σ5 H5 s5 k5 => ⟨ρ4, k5, q1.from s5⟩
          | ct => exact fun σ5 H5 s5 k5 => ⟨ρ4, k5, q1.from s5⟩
          | brk => exact q1
          | ret d => exact q1
        | exc c ρ4 => simp only [e2] at q1; exact q1
        | stuck => simp only [e2] at q1; exact q1.elim

/-! ### raise -/
def raiseM (c : Str) : MS := fun ρ => .exc c ρ
theorem ds_raise {x z : Str} {j : Nat} {C : Addr} {p p2 pos2 : Pos} (hK : G.m = ⟨X.K, X.mg, X.w⟩) (hc : X.calm = true) (tk : Takes X W) (q : PySem.W.excIn X.K C He.veBase "ValueError.__new__" = true) (gC : X.mg x = some (.ref C)) (kC : PySem.W.keepIn X.K (.ref C) = true) (r : Raises X (.ref C)) (hg : Gl X x) (hdb : (x == ("__debug__" : Str)) = false := by decide) :
    DS X G W rm (.Raise (some (.Call (.Name x p) [.Constant (.str z) j p2] [] pos)) none pos2) (raiseM x) :=
  ps_imp (ps_raise hc tk (pmk_own PySem.F.excBase_ValueError q gC kC r hg hdb)) fun E σ H ⟨ρ, k, h⟩ => h σ C H (by rw [hK]; exact gC) Stable.rfl k
end
end DL
end
section
namespace DL
open PySem PySem.Spec L2
open PyProof.Rows hiding St

/-! ### slots forgotten and put back -/
def plain : Sl → Bool
  | .no => true
  | .d _ => true
  | _ => false
def plainB (vs : List Nat) (ρ : DL.Env) : Bool := vs.all fun v => plain (ρ.getD v .no)
def wipeE (ρ : DL.Env) : List Nat → DL.Env
  | [] => ρ
  | v :: vs => (wipeE ρ vs).set v .no
def restE (ρ ρ' : DL.Env) : List Nat → DL.Env
  | [] => ρ'
  | v :: vs => (restE ρ ρ' vs).set v (ρ.getD v .no)
theorem wipe_get (σ : L2.St) (j : Nat) : ∀ vs : List Nat, (wipe σ vs)[j]? = if j ∈ vs then (σ[j]?.map fun _ => none) else σ[j]?
  | [] => by simp [wipe]
  | v :: vs => by
    unfold wipe
    by_cases e : v = j
    · subst e
      rw [List.getElem?_set_self', wipe_get σ v vs]
      by_cases h : v ∈ vs <;> simp [h] <;> cases σ[v]? <;> rfl
    · rw [List.getElem?_set_ne e, wipe_get σ j vs]
      have e' : j ≠ v := fun z => e z.symm
      simp [e']
theorem wipeE_len (ρ : DL.Env) : ∀ vs : List Nat, (wipeE ρ vs).length = ρ.length
  | [] => rfl
  | v :: vs => by unfold wipeE; rw [List.length_set, wipeE_len ρ vs]
theorem wipeE_get (ρ : DL.Env) (j : Nat) : ∀ vs : List Nat, (wipeE ρ vs)[j]? = if j ∈ vs then (ρ[j]?.map fun _ => Sl.no) else ρ[j]?
  | [] => by simp [wipeE]
  | v :: vs => by
    unfold wipeE
    by_cases e : v = j
    · subst e
      rw [List.getElem?_set_self', wipeE_get ρ v vs]
      by_cases h : v ∈ vs <;> simp [h] <;> cases ρ[v]? <;> rfl
    · rw [List.getElem?_set_ne e, wipeE_get ρ j vs]
      have e' : j ≠ v := fun z => e z.symm
      simp [e']
theorem restE_len (ρ ρ' : DL.Env) : ∀ vs : List Nat, (restE ρ ρ' vs).length = ρ'.length
  | [] => rfl
  | v :: vs => by unfold restE; rw [List.length_set, restE_len ρ ρ' vs]
theorem restE_get (ρ ρ' : DL.Env) (hl : ρ.length = ρ'.length) (j : Nat) : ∀ vs : List Nat, (restE ρ ρ' vs)[j]? = if j ∈ vs then ρ[j]? else ρ'[j]?
  | [] => by simp [restE]
  | v :: vs => by
    unfold restE
    by_cases e : v = j
    · subst e
      by_cases hj : v < ρ.length
      · rw [List.getElem?_set_self (by rw [restE_len, ← hl]; exact hj)]
        simp [List.getD_eq_getElem?_getD, List.getElem?_eq_getElem hj]
      · rw [List.getElem?_eq_none (by rw [List.length_set, restE_len, ← hl]; omega)]
        simp [List.getElem?_eq_none (Nat.le_of_not_lt hj)]
    · rw [List.getElem?_set_ne e, restE_get ρ ρ' hl j vs]
      have e' : j ≠ v := fun z => e z.symm
      simp [e']
theorem plain_at {vs : List Nat} {ρ : DL.Env} (h : plainB vs ρ = true) {j : Nat} (hj : j ∈ vs) {s : Sl} (e : ρ[j]? = some s) : plain s = true := by
  have := List.all_eq_true.mp h j hj
  rw [List.getD_eq_getElem?_getD, e] at this
  exact this
theorem wipe_same {js vs : List Nat} {σ σ2 : L2.St} (hs : ∀ j ∈ js, j ∈ vs) (h : SameBut js (wipe σ vs) σ2) : wipe σ2 vs = wipe σ vs := by
  apply List.ext_getElem?
  intro j
  rw [wipe_get, wipe_get]
  by_cases hj : j ∈ vs
  · simp only [hj, if_true]
    have hl : σ2.length = σ.length := by rw [h.1, wipe_length]
    by_cases hlt : j < σ.length
    · rw [List.getElem?_eq_getElem hlt, List.getElem?_eq_getElem (by rw [hl]; exact hlt)]; rfl
    · rw [List.getElem?_eq_none (by omega), List.getElem?_eq_none (by omega)]
  · simp only [hj, if_false]
    have := h.2 j (fun z => hj (hs j z))
    rw [this, wipe_get]; simp [hj]
section
variable {G : Gh} {σ : L2.St} {H H' : Hp} {ρ ρ' : DL.Env} {vs : List Nat}
theorem StOk.wipe (k : StOk G σ H ρ) (hp : plainB vs ρ = true) : StOk G (L2.wipe σ vs) H (wipeE ρ vs) := by
  have nin : ∀ {j : Nat} {s : Sl}, (wipeE ρ vs)[j]? = some s → s ≠ .no → j ∉ vs ∧ ρ[j]? = some s := fun {j s} h hs => by
    rw [wipeE_get] at h
    by_cases hj : j ∈ vs
    · simp only [hj, if_true] at h
      cases e : ρ[j]? with
      | none => rw [e] at h; cases h
      | some t => rw [e] at h; simp at h; exact absurd h.symm hs
    · simp only [hj, if_false] at h; exact ⟨hj, h⟩
  have sg : ∀ {j : Nat}, j ∉ vs → (L2.wipe σ vs)[j]? = σ[j]? := fun {j} hj => by rw [wipe_get]; simp [hj]
  refine ⟨by rw [wipe_length, wipeE_len, k.len], fun i x h => ?_, fun i xs h => ?_, fun i j xs ys b ne h1 h2 h3 => ?_, fun p hpm => ?_, k.keep, fun i c h => ?_⟩
  · obtain ⟨n1, h⟩ := nin h (fun z => by cases z)
    rw [sg n1]; exact k.dat i x h
  · obtain ⟨n1, h⟩ := nin h (fun z => by cases z)
    rw [sg n1]; exact k.own i xs h
  · obtain ⟨n1, h1⟩ := nin h1 (fun z => by cases z)
    obtain ⟨n2, h2⟩ := nin h2 (fun z => by cases z)
    rw [sg n1] at h3
    rw [sg n2]; exact k.sep i j xs ys b ne h1 h2 h3
  · obtain ⟨q1, xs, q2⟩ := k.prot p hpm
    have n1 : p.1 ∉ vs := fun z => by have := plain_at hp z q2; simp [plain] at this
    exact ⟨by rw [sg n1]; exact q1, xs, by rw [wipeE_get]; simp [n1, q2]⟩
  · obtain ⟨n1, h⟩ := nin h (fun z => by cases z)
    rw [sg n1]; exact k.exn i c h
theorem StOk.rest (k : StOk G σ H ρ) (hp : plainB vs ρ = true) (st : Stable H H') (k' : StOk G (L2.wipe σ vs) H' ρ') : StOk G σ H' (restE ρ ρ' vs) := by
  have hl : ρ.length = ρ'.length := by rw [← k.len, ← k'.len, wipe_length]
  have sg : ∀ {j : Nat}, j ∉ vs → (L2.wipe σ vs)[j]? = σ[j]? := fun {j} hj => by rw [wipe_get]; simp [hj]
  have at_ : ∀ {j : Nat} {s : Sl}, (restE ρ ρ' vs)[j]? = some s → (j ∈ vs ∧ ρ[j]? = some s ∧ plain s = true) ∨ (j ∉ vs ∧ ρ'[j]? = some s) := fun {j s} h => by
    rw [restE_get ρ ρ' hl] at h
    by_cases hj : j ∈ vs
    · simp only [hj, if_true] at h; exact .inl ⟨hj, h, plain_at hp hj h⟩
    · simp only [hj, if_false] at h; exact .inr ⟨hj, h⟩
  refine ⟨by rw [restE_len, ← hl, k.len], fun i x h => ?_, fun i xs h => ?_, fun i j xs ys b ne h1 h2 h3 => ?_, fun p hpm => ?_, k'.keep, fun i c h => ?_⟩
  · rcases at_ h with ⟨_, h, _⟩ | ⟨n, h⟩
    · obtain ⟨v, h1, h2⟩ := k.dat i x h
      exact ⟨v, h1, h2.st st⟩
    · have := k'.dat i x h
      rw [sg n] at this; exact this
  · rcases at_ h with ⟨_, _, e⟩ | ⟨n, h⟩
    · simp [plain] at e
    · have := k'.own i xs h
      rw [sg n] at this; exact this
  · rcases at_ h1 with ⟨_, _, e⟩ | ⟨n1, h1⟩
    · simp [plain] at e
    rcases at_ h2 with ⟨_, _, e⟩ | ⟨n2, h2⟩
    · simp [plain] at e
    have := k'.sep i j xs ys b ne h1 h2 (by rw [sg n1]; exact h3)
    rw [sg n2] at this; exact this
  · obtain ⟨q1, xs, q2⟩ := k.prot p hpm
    obtain ⟨_, ys, q3⟩ := k'.prot p hpm
    have n1 : p.1 ∉ vs := fun z => by have := plain_at hp z q2; simp [plain] at this
    exact ⟨q1, ys, by rw [restE_get ρ ρ' hl]; simp [n1, q3]⟩
  · rcases at_ h with ⟨_, _, e⟩ | ⟨n, h⟩
    · simp [plain] at e
    · have := k'.exn i c h
      rw [sg n] at this; exact this
end
/-- a place more that stands as it stood -/
def Gh.add (G : Gh) (p : Addr) (o : HO) : Gh := { G with H0 := upd G.H0 p o }
section
variable {G : Gh} {σ : L2.St} {H H' : Hp} {ρ : DL.Env} {p : Addr} {o : HO}
theorem StOk.add (k : StOk G σ H ρ) (f : Fresh G σ ρ p) (h : H p = some o) : StOk (G.add p o) σ H ρ where
  len := k.len
  dat := k.dat
  own := fun i xs e => by
    obtain ⟨a, ws, h1, h2, h3, h4⟩ := k.own i xs e
    refine ⟨a, ws, h1, h2, h3, fun c => ⟨?_, (h4 c).2⟩⟩
    show L2.upd G.H0 p o a = none
    rw [upd_ne (fun z => f.2.2 i xs e (by rw [← z]; exact h1))]
    exact (h4 c).1
  sep := k.sep
  prot := k.prot
  keep := fun b u e n => by
    have e : L2.upd G.H0 p o b = some u := e
    by_cases z : b = p
    · subst z; rw [upd_same] at e; cases e; exact h
    · rw [upd_ne z] at e; exact k.keep b u e n
  exn := k.exn
theorem StOk.unadd (k : StOk (G.add p o) σ H ρ) (h0 : G.H0 p = none) (hp : ∀ q ∈ G.pr, q.2 ≠ p) : StOk G σ H ρ ∧ Fresh G σ ρ p ∧ H p = some o := by
  refine ⟨⟨k.len, k.dat, fun i xs e => ?_, k.sep, k.prot, fun b u e n => ?_, k.exn⟩, ⟨h0, hp, fun i xs e z => ?_⟩, ?_⟩
  · obtain ⟨a, ws, h1, h2, h3, h4⟩ := k.own i xs e
    refine ⟨a, ws, h1, h2, h3, fun c => ⟨?_, (h4 c).2⟩⟩
    have q : L2.upd G.H0 p o a = none := (h4 c).1
    by_cases z : a = p
    · subst z; exact h0
    · rw [upd_ne z] at q; exact q
  · have z : b ≠ p := fun z => by subst z; rw [h0] at e; cases e
    exact k.keep b u (by show L2.upd G.H0 p o b = some u; rw [upd_ne z]; exact e) n
  · obtain ⟨a, ws, h1, h2, h3, h4⟩ := k.own i xs e
    rw [z] at h1; cases h1
    by_cases c : ∀ q ∈ G.pr, q.1 ≠ i
    · have q : L2.upd G.H0 p o p = none := (h4 c).1
      rw [upd_same] at q; cases q
    · apply c
      intro q hq w
      obtain ⟨q1, _⟩ := k.prot q hq
      rw [w, z] at q1
      injection q1 with q1; injection q1 with q1; injection q1 with q1
      exact hp q hq q1.symm
  · exact k.keep p o (by show L2.upd G.H0 p o p = some o; rw [upd_same]) hp
theorem postG.reG {G' : Gh} {W : WX} {α : Type} {r : Res α} {Q : α → DL.Env → Hp → Prop} (hm : G'.m = G.m) (hk : ∀ H' ρ, StOk G' σ H' ρ → StOk G σ H' ρ) (h : postG G W σ H r Q) : postG G' W σ H r fun a ρ H' => Q a ρ H' ∧ StOk G' σ H' ρ := by
  cases r with
  | ok a ρ => exact fun H' s k => ⟨h H' s (hk H' ρ k), k⟩
  | exc c ρ => exact fun C H' e s k => h C H' (by rw [← hm]; exact e) s (hk H' ρ k)
  | stuck => exact h
end

/-! ### comprehensions -/
def DTs (X : Cx) (G : Gh) (W : WX) (ifs : List Expr) (f : M Bool) : Prop := PTs X ifs (tT G W f)
theorem pts_imp {X : Cx} {e : List Expr} {t t' : TT} (h : PTs X e t) (k : ∀ σ H Q, t' σ H Q → t σ H Q) : PTs X e t' := ⟨fun pins s σ H Q I q => h.run pins s σ H Q I (k σ H Q q)⟩
theorem dts_nil {X : Cx} {G : Gh} {W : WX} : DTs X G W [] (pureM true) := pts_imp pts_nil fun σ H Q ⟨ρ, k, q⟩ => q H Stable.rfl k
theorem dts_one {X : Cx} {G : Gh} {W : WX} {c : Expr} {f : M Bool} (h : DT X G W c f) : DTs X G W [c] f := pts_imp (pts_one h) fun σ H Q h => h
/-- one item: what becomes of the list made so far -/
def itemM (tt : M Bool) (te : M D) (acc : List D) : M (List D) := bindM tt fun b => match b with
  | false => pureM acc
  | true => bindM te fun y => if acc.length < sizeLine then pureM (acc ++ [y]) else stuckM
def compGo (tg : TgF) (tt : M Bool) (te : M D) (vs : List Nat) : List D → List D → M (List D)
  | acc, [] => pureM acc
  | acc, x :: xs => fun ρ => match tg x ρ with
    | none => .stuck
    | some ρ1 => match itemM tt te acc ρ1 with
      | .ok acc' ρ2 => if plainB vs ρ2 = true then compGo tg tt te vs acc' xs (wipeE ρ2 vs) else .stuck
      | _ => .stuck
def compO (it : M (List D)) (tg : TgF) (tt : M Bool) (te : M D) (vs : List Nat) : M (List D) := bindM it fun xs ρ => if plainB vs ρ = true then (match compGo tg tt te vs [] xs (wipeE ρ vs) with
  | .ok ys ρ' => .ok ys (restE ρ ρ' vs)
  | _ => .stuck) else .stuck
theorem Fresh.of {G : Gh} {σ σ' : L2.St} {ρ ρ' : DL.Env} {p : Addr} (f : Fresh G σ ρ p) (h : ∀ (i : Nat) (xs : OC), ρ'[i]? = some (.cell xs) → σ'[i]? = some (some (.ref p)) → ∃ ys, ρ[i]? = some (.cell ys) ∧ σ[i]? = some (some (.ref p))) : Fresh G σ' ρ' p :=
  ⟨f.1, f.2.1, fun i xs e z => by obtain ⟨ys, e1, e2⟩ := h i xs e z; exact f.2.2 i ys e1 e2⟩
theorem bindM_ok {α β : Type} {a : M α} {k : α → M β} {ρ ρ' : DL.Env} {y : β} (h : bindM a k ρ = .ok y ρ') : ∃ x ρ1, a ρ = .ok x ρ1 ∧ k x ρ1 = .ok y ρ' := by
  unfold bindM at h
  cases e : a ρ with
  | ok x ρ1 => rw [e] at h; exact ⟨x, ρ1, rfl, h⟩
  | exc c ρ1 => rw [e] at h; cases h
  | stuck => rw [e] at h; cases h
theorem itemM_inv {tt : M Bool} {te : M D} {acc acc' : List D} {ρ ρ' : DL.Env} (h : itemM tt te acc ρ = .ok acc' ρ') : ∃ b ρ1, tt ρ = .ok b ρ1 ∧ ((b = false ∧ acc' = acc ∧ ρ' = ρ1) ∨ (b = true ∧ ∃ y, te ρ1 = .ok y ρ' ∧ acc.length < sizeLine ∧ acc' = acc ++ [y])) := by
  obtain ⟨b, ρ1, e, h⟩ := bindM_ok h
  cases b with
  | false => cases h; exact ⟨false, _, e, .inl ⟨rfl, rfl, rfl⟩⟩
  | true =>
    obtain ⟨y, ρ2, e2, h⟩ := bindM_ok h
    by_cases hz : acc.length < sizeLine
    · simp only [hz, if_true] at h; cases h; exact ⟨true, ρ1, e, .inr ⟨rfl, y, e2, hz, rfl⟩⟩
    · simp only [hz, if_false] at h; cases h
section
variable {X : Cx} {G : Gh} {W : WX}
/-- the ghost context with another entry heap -/
abbrev Gh.at (G : Gh) (H : Hp) : Gh := ⟨G.m, H, G.pr, G.ex⟩
theorem lc_read {elt tg iter : Expr} {ifs : List Expr} {scope : Scope} {own : List (Str × Nat)} {fi : M (List D)} {js : List Nat} {t : TgF} {tt : M Bool} {te : M D} (hc : X.calm = true) (hN : X.N.Nodup) (hi : DI X G W tg iter fi) (ok : BlkOk X.N X.env.scope scope own) (hjs : js.all (fun j => (own.map (·.2)).contains j) = true)
    (hg : ∀ (h : Hp) (s : Shared) (H : Hp) (C : Addr) (cl : List (Str × Addr)) (fp : List Addr), DGt (X.blk s H scope (compEnvC scope cl C X.env) fp) (G.at h) tg js t)
    (ht : ∀ (h : Hp) (s : Shared) (H : Hp) (C : Addr) (cl : List (Str × Addr)) (fp : List Addr), DTs (X.blk s H scope (compEnvC scope cl C X.env) fp) (G.at h) W0 ifs tt)
    (he : ∀ (h : Hp) (s : Shared) (H : Hp) (C : Addr) (cl : List (Str × Addr)) (fp : List Addr), DE (X.blk s H scope (compEnvC scope cl C X.env) fp) (G.at h) W0 elt te) :
    ∃ wi g tt' te', PI X tg iter wi ∧ (∀ (s : Shared) (H : Hp) (C : Addr) (cl : List (Str × Addr)) (fp : List Addr), PG (X.blk s H scope (compEnvC scope cl C X.env) fp) tg g) ∧ (∀ (s : Shared) (H : Hp) (C : Addr) (cl : List (Str × Addr)) (fp : List Addr), PTs (X.blk s H scope (compEnvC scope cl C X.env) fp) ifs tt') ∧
      (∀ (s : Shared) (H : Hp) (C : Addr) (cl : List (Str × Addr)) (fp : List Addr), PE (X.blk s H scope (compEnvC scope cl C X.env) fp) elt te') ∧ ∀ σ H Q, oT G W (compO fi t tt te (own.map (·.2))) σ H Q → tLc wi g tt' te' (own.map (·.2)) σ H Q := by
  have hjs' : ∀ j ∈ js, j ∈ own.map (·.2) := fun j hj => by simpa using List.all_eq_true.mp hjs j hj
  generalize hvs : own.map (·.2) = vs at hjs'
  refine ⟨_, fun v σ H Q => ∃ h, tgT (G.at h) js t v σ H Q, fun σ H Q => ∃ h, tT (G.at h) W0 tt σ H Q, fun σ H Q => ∃ h, dT (G.at h) W0 te σ H Q, hi,
    (fun s H C cl fp => ⟨fun pins s' σ H' v u Q I r ⟨h, q⟩ => (hg h s H C cl fp).run pins s' σ H' v u Q I r q⟩),
    (fun s H C cl fp => ⟨fun pins s' σ H' Q I ⟨h, q⟩ => (ht h s H C cl fp).run pins s' σ H' Q I q⟩),
    (fun s H C cl fp => ⟨fun pins s' σ H' Q I ⟨h, q⟩ => (he h s H C cl fp).run pins s' σ H' Q I q⟩), fun σ H Q ⟨ρ, k, q⟩ => ?_⟩
  refine ⟨ρ, k, q.bind.mono fun xs ρ1 H1 _ s1 k1 q1 J io => fun Dn hD => ?_⟩
  by_cases hpl : plainB vs ρ1 = true
  · simp only [hpl, if_true] at q1
    have gr := Grow.new (o := .lst []) hD
    have k2 := (k1.grow gr).wipe hpl
    have fr : Fresh G σ ρ1 Dn := k1.fresh hD
    have sgw : ∀ {j : Nat}, j ∉ vs → (L2.wipe σ vs)[j]? = σ[j]? := fun {j} hj => by rw [wipe_get]; simp [hj]
    refine ⟨fun i n H' => n = xs.length - i ∧ i ≤ xs.length ∧ Stable H1 H' ∧ ∃ ρ' acc ws, StOk G (L2.wipe σ vs) H' ρ' ∧ Fresh G (L2.wipe σ vs) ρ' Dn ∧ H' Dn = some (.lst ws) ∧ RepL G.m H' ws acc ∧ (∀ j ∈ vs, ∀ us, ρ'[j]? ≠ some (.cell us)) ∧
        postG G W σ H1 (match compGo t tt te vs acc (xs.drop i) ρ' with | .ok ys ρ' => .ok ys (restE ρ1 ρ' vs) | _ => .stuck) (fun ds ρ' H' => ∀ a vs, H' a = some (.lst vs) → RepL G.m H' vs ds → Fresh G σ ρ' a → Q (.ref a) H'), ⟨_, rfl, Nat.zero_le _, gr.stable, _, [], [], k2, ?_, upd_same, .nil, ?_, ?_⟩, ?_⟩
    · refine fr.of fun i us h z => ?_
      rw [wipeE_get] at h
      by_cases hj : i ∈ vs
      · simp only [hj, if_true] at h
        cases e : ρ1[i]? <;> rw [e] at h <;> simp at h
      · simp only [hj, if_false] at h
        exact ⟨us, h, by rw [← sgw hj]; exact z⟩
    · intro j hj us h
      rw [wipeE_get] at h
      simp only [hj, if_true] at h
      cases e : ρ1[j]? <;> rw [e] at h <;> simp at h
    · rw [List.drop_zero]; exact q1
    · rintro i n H' ⟨rfl, hi', st, ρ', acc, ws, kk, fr', hDn, rl, nov, qq⟩
      by_cases hlt : i < xs.length
      · refine .inr ⟨io.go i H' st hlt, fun H2 => Stable H1 H2 ∧ ∃ ρ' acc ws, StOk G (L2.wipe σ vs) H2 ρ' ∧ Fresh G (L2.wipe σ vs) ρ' Dn ∧ H2 Dn = some (.lst ws) ∧ RepL G.m H2 ws acc ∧ (∀ j ∈ vs, ∀ us, ρ'[j]? ≠ some (.cell us)) ∧
          postG G W σ H1 (match compGo t tt te vs acc (xs.drop (i + 1)) ρ' with | .ok ys ρ' => .ok ys (restE ρ1 ρ' vs) | _ => .stuck) (fun ds ρ' H' => ∀ a vs, H' a = some (.lst vs) → RepL G.m H' vs ds → Fresh G σ ρ' a → Q (.ref a) H'), fun H2 w => ⟨xs.length - (i + 1), by omega, rfl, hlt, w⟩, fun v H2 y => ?_⟩
        obtain ⟨e, d, hd, rd⟩ := io.yld i H' v H2 st hlt y
        rw [e]
        have ed : xs.drop i = d :: xs.drop (i + 1) := by
          rw [List.drop_eq_getElem_cons hlt]
          rw [List.getElem?_eq_getElem hlt] at hd
          injection hd with hd
          rw [hd]
        rw [ed] at qq
        unfold compGo at qq
        cases e1 : t d ρ' with
        | none => simp only [e1] at qq; exact qq.elim
        | some ρ2 =>
          simp only [e1] at qq
          cases e2 : itemM tt te acc ρ2 with
          | exc c ρ3 => simp only [e2] at qq; exact qq.elim
          | stuck => simp only [e2] at qq; exact qq.elim
          | ok acc' ρ3 =>
            simp only [e2] at qq
            by_cases hp3 : plainB vs ρ3 = true
            · simp only [hp3, if_true] at qq
              refine ⟨(G.add Dn (.lst ws)).H0, ρ', d, ρ2, kk.add fr' hDn, rd, e1, fun σ2 H2 sb s2 k2' => ?_⟩
              have ws2 := wipe_same hjs' sb
              obtain ⟨b, ρ4, e3, e4⟩ := itemM_inv e2
              have novw : ∀ j ∈ vs, ∀ us, (wipeE ρ3 vs)[j]? ≠ some (.cell us) := fun j hj us h => by
                rw [wipeE_get] at h
                simp only [hj, if_true] at h
                cases e : ρ3[j]? <;> rw [e] at h <;> simp at h
              have frw : ∀ {H5 : Hp}, Fresh G σ2 ρ3 Dn → Fresh G (L2.wipe σ vs) (wipeE ρ3 vs) Dn := fun {H5} f => by
                rw [← ws2]
                refine f.of fun i us h z => ?_
                rw [wipeE_get] at h
                by_cases hj : i ∈ vs
                · simp only [hj, if_true] at h
                  cases e : ρ3[i]? <;> rw [e] at h <;> simp at h
                · simp only [hj, if_false] at h
                  exact ⟨us, h, (wipe_some z).1⟩
              refine ⟨ws2, (G.add Dn (.lst ws)).H0, ρ2, k2', ?_⟩
              rw [e3]
              intro H3 s3 k3
              rcases e4 with ⟨rfl, rfl, rfl⟩ | ⟨rfl, yv, e5, hz, rfl⟩
              · rw [if_neg (by decide)]
                obtain ⟨k4, f4, h4⟩ := k3.unadd fr.1 fr.2.1
                have k5 := k4.wipe hp3
                rw [ws2] at k5
                exact ⟨st.trans (s2.trans s3), _, _, ws, k5, frw (H5 := H3) f4, h4, rl.st (s2.trans s3), novw, qq⟩
              · rw [if_pos rfl]
                refine ⟨(G.add Dn (.lst ws)).H0, ρ4, k3, ?_⟩
                rw [e5]
                intro H4 s4 k4 v4 r4
                obtain ⟨k5, f5, h5⟩ := k4.unadd fr.1 fr.2.1
                have su : Stable H4 (upd H4 Dn (.lst (ws ++ [v4]))) := Stable.upd h5 id
                have k6 := (k5.upd (o := .lst (ws ++ [v4])) f5 fun u hu => nfix_of h5 id hu).wipe hp3
                rw [ws2] at k6
                have s4' : Stable H' H4 := s2.trans (s3.trans s4)
                exact ⟨ws, h5, by rw [rl.len]; exact hz, st.trans (s4'.trans su), _, _, _, k6, frw (H5 := H4) f5, upd_same, (rl.st (s4'.trans su)).append (.cons (r4.st su) .nil), novw, qq⟩
            · simp only [hp3] at qq; exact qq.elim
      · have e : i = xs.length := by omega
        subst e
        rw [List.drop_length] at qq
        refine .inl ⟨io.stop _ H' st (Nat.le_refl _), ?_⟩
        have hl : ρ1.length = ρ'.length := by rw [← k1.len, ← kk.len, wipe_length]
        refine qq H' st (k1.rest hpl st kk) Dn ws hDn rl (fr'.of fun i us h z => ?_)
        rw [restE_get ρ1 ρ' hl] at h
        by_cases hj : i ∈ vs
        · simp only [hj, if_true] at h
          have := plain_at hpl hj h
          simp [plain] at this
        · simp only [hj, if_false] at h
          exact ⟨us, h, by rw [sgw hj]; exact z⟩
  · simp only [hpl] at q1; exact q1.elim
theorem do_lc {elt tg iter : Expr} {ifs : List Expr} {scope : Scope} {own : List (Str × Nat)} {pos : Pos} {fi : M (List D)} {js : List Nat} {t : TgF} {tt : M Bool} {te : M D} (hc : X.calm = true) (hN : X.N.Nodup) (hi : DI X G W tg iter fi) (ok : BlkOk X.N X.env.scope scope own) {vs : List Nat} (hvs : own.map (·.2) = vs) (hjs : js.all (fun j => (own.map (·.2)).contains j) = true)
    (hg : ∀ (h : Hp) (s : Shared) (H : Hp) (C : Addr) (cl : List (Str × Addr)) (fp : List Addr), DGt (X.blk s H scope (compEnvC scope cl C X.env) fp) (G.at h) tg js t)
    (ht : ∀ (h : Hp) (s : Shared) (H : Hp) (C : Addr) (cl : List (Str × Addr)) (fp : List Addr), DTs (X.blk s H scope (compEnvC scope cl C X.env) fp) (G.at h) W0 ifs tt)
    (he : ∀ (h : Hp) (s : Shared) (H : Hp) (C : Addr) (cl : List (Str × Addr)) (fp : List Addr), DE (X.blk s H scope (compEnvC scope cl C X.env) fp) (G.at h) W0 elt te) (hs : ∀ x, foldedSetIterable iter X.env x = pure x := by intro _; rfl) :
    DO X G W (.ListComp elt [⟨tg, iter, ifs, 0⟩] scope pos) (compO fi t tt te vs) := by
  subst hvs
  obtain ⟨wi, g, tt', te', h1, h2, h3, h4, h5⟩ := lc_read hc hN hi ok hjs hg ht he
  exact pe_imp (pe_lc hc hN h1 ok h2 h3 h4 hs) h5
/-- name = [..] -/
theorem ds_setLc (i : Nat) {rm : RM} {y : Str} {py : Pos} {elt tg iter : Expr} {ifs : List Expr} {scope : Scope} {own : List (Str × Nat)} {pos spos : Pos} {fi : M (List D)} {js : List Nat} {t : TgF} {tt : M Bool} {te : M D} (hp : pfree G i) (hc : X.calm = true) (hN : X.N.Nodup) (hy : X.N[i]? = some y) (hyl : X.env.scope.names.lookup y = some .local)
    (hsw : swapsWith (.ListComp elt [⟨tg, iter, ifs, 0⟩] scope pos) (some (.Name y py)) spos.line X.env = pure true) (hi : DI X G W tg iter fi) (ok : BlkOk X.N X.env.scope scope own) {vs : List Nat} (hvs : own.map (·.2) = vs) (hjs : js.all (fun j => (own.map (·.2)).contains j) = true)
    (hg : ∀ (h : Hp) (s : Shared) (H : Hp) (C : Addr) (cl : List (Str × Addr)) (fp : List Addr), DGt (X.blk s H scope (compEnvC scope cl C X.env) fp) (G.at h) tg js t)
    (ht : ∀ (h : Hp) (s : Shared) (H : Hp) (C : Addr) (cl : List (Str × Addr)) (fp : List Addr), DTs (X.blk s H scope (compEnvC scope cl C X.env) fp) (G.at h) W0 ifs tt)
    (he : ∀ (h : Hp) (s : Shared) (H : Hp) (C : Addr) (cl : List (Str × Addr)) (fp : List Addr), DE (X.blk s H scope (compEnvC scope cl C X.env) fp) (G.at h) W0 elt te) (hs : ∀ x, foldedSetIterable iter X.env x = pure x := by intro _; rfl) :
    DS X G W rm (.Assign [.Name y py] (.ListComp elt [⟨tg, iter, ifs, 0⟩] scope pos) spos) (setOM i (compO fi t tt te vs)) := by
  subst hvs
  obtain ⟨wi, g, tt', te', h1, h2, h3, h4, h5⟩ := lc_read hc hN hi ok hjs hg ht he
  exact ps_imp (ps_setLc hc hN hy hyl hsw h1 ok h2 h3 h4 hs) fun E σ H ⟨ρ, k, q⟩ => h5 σ H _ ⟨ρ, k, q.bind.mono fun ds ρ1 H1 _ s1 k1 q1 a vs ha r f => q1 _ H1 Stable.rfl (k1.setO hp ha r f)⟩
end
end DL
end
section
namespace DL
open PySem PySem.Spec L2
open PyProof.Rows hiding St

/-! ### data as the library's data -/
mutual
def toPy : D → PyData
  | .non => .none
  | .bl b => .bool b
  | .int i => .int i
  | .str s => .str s
  | .lst xs => .list (toPyL xs)
  | .tup xs => .tuple (toPyL xs)
  | .dic _ _ => .dict []
  | .ins _ _ _ => .dict []
def toPyL : List D → List PyData
  | [] => []
  | x :: xs => toPy x :: toPyL xs
end
section
variable {m : Md} {H : Hp}
mutual
theorem Rep.dp : ∀ {d : D} {v : V}, Rep m H v d → (toPy d).canLay0 = true → Dp m.K H v (toPy d)
  | .non, _, h, _ => by cases h; exact .non
  | .bl b, _, h, _ => by cases h; exact .bl b
  | .int i, _, h, _ => by cases h; exact .int i
  | .str x, _, h, _ => by cases h; exact .str x
  | .lst ds, _, h, c => by
    cases h with
    | lst q r => exact .lst q.sq (RepL.dp r c)
  | .tup ds, _, h, c => by
    cases h with
    | tup q r => exact .tup q (RepL.dp r c)
  | .dic _ _, _, _, c => by simp [toPy, PyData.canLay0] at c
  | .ins _ _ _, _, _, c => by simp [toPy, PyData.canLay0] at c
theorem RepL.dp : ∀ {ds : List D} {vs : List V}, RepL m H vs ds → PyData.canLayAll0 (toPyL ds) = true → DpAll m.K H vs (toPyL ds)
  | [], _, h, _ => by cases h; exact .nil
  | d :: ds, _, h, c => by
    cases h with
    | cons a b =>
      have c : ((toPy d).canLay0 && PyData.canLayAll0 (toPyL ds)) = true := by simpa [toPyL, PyData.canLayAll0] using c
      rw [Bool.and_eq_true] at c
      exact .cons (Rep.dp a c.1) (RepL.dp b c.2)
end
end
def okD (d : D) : Bool := SeqAt.shaped (toPy d)
def eqvD (a b : D) : Bool := PyData.eqv (toPy a) (toPy b)
def eqD (a b : D) : Option D := if (okD a && okD b) = true then some (.bl (eqvD a b)) else none
def neD (a b : D) : Option D := if (okD a && okD b) = true then some (.bl (!eqvD a b)) else none
section
variable {m : Md}
theorem opd_eq : OpD m (rEqD m.K) eqD := fun x y dx dy d H Q rx ry e h => by
  unfold eqD at e
  split at e
  · rename_i c
    rw [Bool.and_eq_true] at c
    cases e
    exact ⟨toPy dx, toPy dy, rx.dp (SeqAt.canLay_of_shaped c.1), ry.dp (SeqAt.canLay_of_shaped c.2), c.1, c.2, h _ H Grow.rfl (.bl _)⟩
  · cases e
theorem opd_ne : OpD m (rNeD m.K) neD := fun x y dx dy d H Q rx ry e h => by
  unfold neD at e
  split at e
  · rename_i c
    rw [Bool.and_eq_true] at c
    cases e
    exact ⟨toPy dx, toPy dy, rx.dp (SeqAt.canLay_of_shaped c.1), ry.dp (SeqAt.canLay_of_shaped c.2), c.1, c.2, h _ H Grow.rfl (.bl _)⟩
  · cases e
/-! ### whole numbers -/
def intD (f : Int → Int → Option D) : D → D → Option D
  | .int i, .int j => f i j
  | _, _ => none
theorem opd_i0 {g : Int → Int → V} {f : Int → Int → D} (h : ∀ i j H, Rep m H (g i j) (f i j)) : OpD m (rI0 g) (intD fun i j => some (f i j)) := fun x y dx dy d H Q rx ry e k => by
  cases rx <;> cases ry <;> first | (cases e; exact ⟨_, _, rfl, rfl, k _ H Grow.rfl (h _ _ H)⟩) | cases e
theorem opd_iC {C : Int → Int → Prop} [∀ i j, Decidable (C i j)] {g : Int → Int → V} {f : Int → Int → D} (h : ∀ i j H, Rep m H (g i j) (f i j)) : OpD m (rI C g) (intD fun i j => if C i j then some (f i j) else none) := fun x y dx dy d H Q rx ry e k => by
  cases rx with
  | int i =>
    cases ry with
    | int j =>
      have e : (if C i j then some (f i j) else none) = some d := e
      by_cases c : C i j
      · rw [if_pos c] at e; cases e; exact ⟨i, j, rfl, rfl, c, k _ H Grow.rfl (h _ _ H)⟩
      · rw [if_neg c] at e; cases e
    | _ => cases e
  | _ => cases e
def subD : D → D → Option D := intD fun i j => some (.int (i - j))
instance (i j : Int) : Decidable (CMul i j) := by unfold CMul; infer_instance
instance (i j : Int) : Decidable (CDiv i j) := by unfold CDiv; infer_instance
instance (i j : Int) : Decidable (CPow i j) := by unfold CPow; infer_instance
def mulD : D → D → Option D := intD fun i j => if CMul i j then some (.int (i * j)) else none
def divD : D → D → Option D := intD fun i j => if CDiv i j then some (.int (i / j)) else none
def modD : D → D → Option D := intD fun i j => if 0 < j then some (.int (i % j)) else none
def ltD : D → D → Option D := intD fun i j => some (.bl (decide (i < j)))
def leD : D → D → Option D := intD fun i j => some (.bl (decide (i ≤ j)))
def gtD : D → D → Option D := intD fun i j => some (.bl (decide (j < i)))
def geD : D → D → Option D := intD fun i j => some (.bl (decide (j ≤ i)))
theorem opd_sub : OpD m (rI0 fun i j => .int (i - j)) subD := opd_i0 fun _ _ _ => .int _
theorem opd_mul : OpD m (rI CMul fun i j => .int (i * j)) mulD := opd_iC fun _ _ _ => .int _
theorem opd_div : OpD m (rI CDiv fun i j => .int (i / j)) divD := opd_iC fun _ _ _ => .int _
theorem opd_mod : OpD m (rI (fun _ j => 0 < j) fun i j => .int (i % j)) modD := opd_iC (C := fun _ j => 0 < j) fun _ _ _ => .int _
theorem opd_lt : OpD m (rI0 fun i j => .bl (decide (i < j))) ltD := opd_i0 fun _ _ _ => .bl _
theorem opd_le : OpD m (rI0 fun i j => .bl (decide (i ≤ j))) leD := opd_i0 fun _ _ _ => .bl _
theorem opd_gt : OpD m (rI0 fun i j => .bl (decide (j < i))) gtD := opd_i0 fun _ _ _ => .bl _
theorem opd_ge : OpD m (rI0 fun i j => .bl (decide (j ≤ i))) geD := opd_i0 fun _ _ _ => .bl _
theorem OpD.or {r r' : R2} {g g' : D → D → Option D} (h : OpD m r g) (h' : OpD m r' g') : OpD m (fun x y H Q => r x y H Q ∨ r' x y H Q) (fun a b => (g a b).or (g' a b)) := fun x y dx dy d H Q rx ry e k => by
  have e : (g dx dy).or (g' dx dy) = some d := e
  cases q : g dx dy with
  | some z =>
    rw [q] at e; cases e
    exact .inl (h x y dx dy _ H Q rx ry q k)
  | none =>
    rw [q] at e
    exact .inr (h' x y dx dy d H Q rx ry e k)
/-! ### + -/
def rCatF (K : PySem.W.Frag) : R2 := fun x y H Q => ∃ a b xs zs, x = .ref a ∧ y = .ref b ∧ SqF K H a xs ∧ SqF K H b zs ∧ xs.length + zs.length ≤ sizeLine ∧ ∀ p, H p = none → ∀ o, Q (.ref p) (upd H p (.frz o (.lst (xs ++ zs))))
theorem isL_of {X : Cx} {pins : List (Addr × Obj)} {σ : L2.St} {H : Hp} {s : Shared} {a : Addr} {xs : List V} (I : Inv X pins σ H s) (h : SqF X.K H a xs) : ∃ (its : List Value) (n : Nat), Vals xs its ∧ IsL s.heap a its.toArray n := by
  rcases h with ⟨o, h⟩ | ⟨its, n, h1, h2, h3⟩
  · obtain ⟨_, _, its, n, r, e⟩ := (show ObjOk X.prog X.w H s.heap a (.frz o (.lst xs)) from I.hok a _ h)
    exact ⟨its, n, r, e⟩
  · exact ⟨its.toList, n, h3, by simpa using I.kIn a _ h1⟩
theorem op_catF {X : Cx} : OpR X (binaryOp .Add) (rCatF X.K) := by
  intro pins s σ H x y v u Q I rx ry ⟨a, b, xs, zs, ex, ey, ha, hb, hz, q⟩
  subst ex; subst ey
  cases rx; cases ry
  obtain ⟨i1, n1, r1, e1⟩ := isL_of I ha
  obtain ⟨i2, n2, r2, e2⟩ := isL_of I hb
  have hl : i1.toArray.size + i2.toArray.size ≤ sizeLine := by
    have := r1.length; have := r2.length
    simp only [List.size_toArray]; omega
  refine PySem.P.add_list e1 e2 ?_ hl
  have J := I.lnew (t' := s.toks) (r1.append r2) (by rw [List.length_append]; exact hz)
  have ea : i1.toArray ++ i2.toArray = (i1 ++ i2).toArray := by simp
  rw [ea]
  obtain ⟨od, J2⟩ := J.lock upd_same trivial
  have q2 := q _ I.fresh od
  have eu : upd (upd H s.heap.objs.size (.lst (xs ++ zs))) s.heap.objs.size (.frz od (.lst (xs ++ zs))) = upd H s.heap.objs.size (.frz od (.lst (xs ++ zs))) := upd_upd
  rw [eu] at J2
  exact ⟨.ref _, _, J2, rfl, q2⟩
def rAdd (K : PySem.W.Frag) : R2 := fun x y H Q => (rI0 fun i j => .int (i + j)) x y H Q ∨ ((fun x y H Q => ∃ i j, x = .str i ∧ y = .str j ∧ i.length + j.length ≤ sizeLine ∧ Q (.str (i ++ j)) H) x y H Q ∨ (rCatF K x y H Q ∨ rCatA K x y H Q))
theorem op_addU {X : Cx} : OpR X (binaryOp .Add) (rAdd X.K) := op_add.or (op_add_str.or (op_catF.or op_catA))
def addD : D → D → Option D
  | .int i, .int j => some (.int (i + j))
  | .str i, .str j => if i.length + j.length ≤ sizeLine then some (.str (i ++ j)) else none
  | .lst xs, .lst ys => if xs.length + ys.length ≤ sizeLine then some (.lst (xs ++ ys)) else none
  | .tup xs, .tup ys => if xs.length + ys.length ≤ sizeLine then some (.tup (xs ++ ys)) else none
  | _, _ => none
theorem opd_add : OpD m (rAdd m.K) addD := fun x y dx dy d H Q rx ry e k => by
  cases rx with
  | int i =>
    cases ry with
    | int j => cases e; exact .inl ⟨i, j, rfl, rfl, k _ H Grow.rfl (.int _)⟩
    | _ => cases e
  | str i =>
    cases ry with
    | str j =>
      have e : (if i.length + j.length ≤ sizeLine then some (D.str (i ++ j)) else none) = some d := e
      by_cases c : i.length + j.length ≤ sizeLine
      · rw [if_pos c] at e; cases e; exact .inr (.inl ⟨i, j, rfl, rfl, c, k _ H Grow.rfl (.str _)⟩)
      · rw [if_neg c] at e; cases e
    | _ => cases e
  | @lst _ v1 xs qa ra =>
    cases ry with
    | @lst _ v2 ys qb rb =>
      have e : (if xs.length + ys.length ≤ sizeLine then some (D.lst (xs ++ ys)) else none) = some d := e
      by_cases c : xs.length + ys.length ≤ sizeLine
      · rw [if_pos c] at e
        cases e
        refine .inr (.inr (.inl ⟨_, _, _, _, rfl, rfl, qa, qb, by rw [ra.len, rb.len]; exact c, fun p hp o => ?_⟩))
        have g := Grow.new (o := .frz o (.lst (v1 ++ v2))) hp
        exact k _ _ g (.lst (.inl ⟨o, upd_same⟩) ((ra.st g.stable).append (rb.st g.stable)))
      · rw [if_neg c] at e; cases e
    | _ => cases e
  | @tup _ v1 xs qa ra =>
    cases ry with
    | @tup _ v2 ys qb rb =>
      have e : (if xs.length + ys.length ≤ sizeLine then some (D.tup (xs ++ ys)) else none) = some d := e
      by_cases c : xs.length + ys.length ≤ sizeLine
      · rw [if_pos c] at e
        cases e
        have ne : ∀ {vs : List V} {ds : List D}, RepL m H vs ds → (vs = [] ↔ ds = []) := fun r => by
          cases r <;> simp
        refine .inr (.inr (.inr ⟨_, _, _, _, rfl, rfl, qa, qb, by rw [ra.len, rb.len]; exact c, fun z => ?_, fun _ z => ?_, fun _ _ p hp => ?_⟩))
        · have z' := (ne ra).mp z
          subst z'
          exact k _ H Grow.rfl (.tup qb rb)
        · have z' := (ne rb).mp z
          subst z'
          rw [List.append_nil] at k
          exact k _ H Grow.rfl (.tup qa ra)
        · have g := Grow.new (o := .tup (v1 ++ v2)) hp
          exact k _ _ g (.tup (SqT.of upd_same) ((ra.st g.stable).append (rb.st g.stable)))
      · rw [if_neg c] at e; cases e
    | _ => cases e
  | _ => cases e
/-! ### places -/
def ixD (x i : D) : Option D := match x, i with
  | .lst xs, .int i => atI xs i
  | .tup xs, .int i => atI xs i
  | .str z, .int i => if z.length ≤ sizeLine then (atI z.cps.toList i).map fun c => .str ⟨#[c]⟩ else none
  | _, _ => none
theorem atI_rep {H : Hp} {vs : List V} {ds : List D} {i : Int} {d : D} (r : RepL m H vs ds) (h : atI ds i = some d) : ∃ v, atI vs i = some v ∧ Rep m H v d := by
  unfold atI at h ⊢
  rw [r.len]
  cases e : ixN ds.length i with
  | none => rw [e] at h; cases h
  | some j =>
    rw [e] at h
    obtain ⟨v, h1, h2⟩ := r.get (show ds[j]? = some d from h)
    exact ⟨v, h1, h2⟩
theorem opd_ix : OpD m (rIx m.K) ixD := fun x y dx dy d H Q rx ry e k => by
  cases rx with
  | lst qa ra =>
    cases ry with
    | int i =>
      obtain ⟨v, h1, h2⟩ := atI_rep ra e
      exact .inl ⟨_, _, i, v, rfl, rfl, qa.sq, h1, k v H Grow.rfl h2⟩
    | _ => cases e
  | tup qa ra =>
    cases ry with
    | int i =>
      obtain ⟨v, h1, h2⟩ := atI_rep ra e
      exact .inr (.inl ⟨_, _, i, v, rfl, rfl, qa, h1, k v H Grow.rfl h2⟩)
    | _ => cases e
  | str z =>
    cases ry with
    | int i =>
      unfold ixD at e
      by_cases c : z.length ≤ sizeLine
      · simp only [c, if_true] at e
        cases q : atI z.cps.toList i with
        | none => rw [q] at e; cases e
        | some w =>
          rw [q] at e; cases e
          exact .inr (.inr ⟨z, i, w, rfl, rfl, c, q, k _ H Grow.rfl (.str _)⟩)
      · simp only [c, if_false] at e; cases e
    | _ => cases e
  | _ => cases e
def ixO (xs : List D) (i : D) : Option D := match i with
  | .int i => atI xs i
  | _ => none
/-! ### builtins -/
def lenD : List D → Option D
  | [.lst xs] => some (.int xs.length)
  | [.tup xs] => some (.int xs.length)
  | [.str z] => if z.length ≤ sizeLine then some (.int z.length) else none
  | _ => none
theorem one_of {H : Hp} {vs : List V} {d : D} (r : RepL m H vs [d]) : ∃ v, vs = [v] ∧ Rep m H v d := by
  cases r with
  | cons a b => cases b; exact ⟨_, rfl, a⟩
theorem cd_len : CallD m (fun xs H Q => ∃ x n, xs = [x] ∧ LenV m.K x H n ∧ Q (.int n) H) lenD := fun vs ds d H Q r e k => by
  unfold lenD at e
  split at e
  · obtain ⟨v, rfl, rv⟩ := one_of r
    cases e
    cases rv with
    | lst q rl => exact ⟨_, _, rfl, .inl ⟨_, q.sq, rl.len.symm⟩, k _ H Grow.rfl (.int _)⟩
  · obtain ⟨v, rfl, rv⟩ := one_of r
    cases e
    cases rv with
    | tup q rl => exact ⟨_, _, rfl, .inr ⟨_, q, rl.len.symm⟩, k _ H Grow.rfl (.int _)⟩
  · obtain ⟨v, rfl, rv⟩ := one_of r
    split at e
    · rename_i c
      cases e
      cases rv
      exact ⟨_, _, rfl, ⟨c, rfl⟩, k _ H Grow.rfl (.int _)⟩
    · cases e
  · cases e
def intsOf : List D → Option (List Int)
  | [] => some []
  | .int i :: r => (intsOf r).map (i :: ·)
  | _ => none
theorem ints_rep {H : Hp} : ∀ {ds : List D} {vs : List V} {ns : List Int}, RepL m H vs ds → intsOf ds = some ns → vs = ns.map V.int
  | [], vs, ns, r, e => by cases e; cases r; rfl
  | d :: ds, vs, ns, r, e => by
    cases r with
    | cons a b =>
      cases a with
      | int i =>
        unfold intsOf at e
        cases q : intsOf ds with
        | none => rw [q] at e; cases e
        | some l => rw [q] at e; cases e; rw [ints_rep b q]; rfl
      | _ => cases e
def boolsOf : List D → Option (List Bool)
  | [] => some []
  | .bl i :: r => (boolsOf r).map (i :: ·)
  | _ => none
theorem bools_rep {H : Hp} : ∀ {ds : List D} {vs : List V} {ns : List Bool}, RepL m H vs ds → boolsOf ds = some ns → vs = ns.map V.bl
  | [], vs, ns, r, e => by cases e; cases r; rfl
  | d :: ds, vs, ns, r, e => by
    cases r with
    | cons a b =>
      cases a with
      | bl i =>
        unfold boolsOf at e
        cases q : boolsOf ds with
        | none => rw [q] at e; cases e
        | some l => rw [q] at e; cases e; rw [bools_rep b q]; rfl
      | _ => cases e
def allD : List D → Option D
  | [.lst xs] => (boolsOf xs).map fun bs => .bl (bs.all id)
  | _ => none
def anyD : List D → Option D
  | [.lst xs] => (boolsOf xs).map fun bs => .bl (bs.any id)
  | _ => none
theorem cd_all : CallD m (rAll m.K) allD := fun vs ds d H Q r e k => by
  unfold allD at e
  split at e
  · obtain ⟨v, rfl, rv⟩ := one_of r
    rename_i xs
    cases q : boolsOf xs with
    | none => rw [q] at e; cases e
    | some bs =>
      rw [q] at e; cases e
      cases rv with
      | lst qa rl =>
        have := bools_rep rl q
        subst this
        exact ⟨_, bs, rfl, qa.sq, k _ H Grow.rfl (.bl _)⟩
  · cases e
theorem cd_any : CallD m (rAny m.K) anyD := fun vs ds d H Q r e k => by
  unfold anyD at e
  split at e
  · obtain ⟨v, rfl, rv⟩ := one_of r
    rename_i xs
    cases q : boolsOf xs with
    | none => rw [q] at e; cases e
    | some bs =>
      rw [q] at e; cases e
      cases rv with
      | lst qa rl =>
        have := bools_rep rl q
        subst this
        exact ⟨_, bs, rfl, qa.sq, k _ H Grow.rfl (.bl _)⟩
  · cases e
/-- the greatest, the least of ints -/
def maxI : List Int → Option Int
  | [] => none
  | x :: r => some (r.foldl max x)
def minI : List Int → Option Int
  | [] => none
  | x :: r => some (r.foldl min x)
theorem foldl_max : ∀ (r : List Int) (x : Int), (r.foldl max x = x ∨ r.foldl max x ∈ r) ∧ x ≤ r.foldl max x ∧ ∀ y ∈ r, y ≤ r.foldl max x
  | [], x => ⟨.inl rfl, Int.le_refl _, fun y h => by cases h⟩
  | a :: r, x => by
    obtain ⟨h1, h2, h3⟩ := foldl_max r (max x a)
    rw [List.foldl_cons]
    refine ⟨?_, by omega, fun y hy => ?_⟩
    · rcases h1 with h1 | h1
      · by_cases c : x ≤ a
        · right; rw [h1, show max x a = a by omega]; exact List.mem_cons_self
        · left; rw [h1]; omega
      · right; exact List.mem_cons_of_mem _ h1
    · rcases List.mem_cons.mp hy with rfl | hy
      · omega
      · exact h3 y hy
theorem foldl_min : ∀ (r : List Int) (x : Int), (r.foldl min x = x ∨ r.foldl min x ∈ r) ∧ r.foldl min x ≤ x ∧ ∀ y ∈ r, r.foldl min x ≤ y
  | [], x => ⟨.inl rfl, Int.le_refl _, fun y h => by cases h⟩
  | a :: r, x => by
    obtain ⟨h1, h2, h3⟩ := foldl_min r (min x a)
    rw [List.foldl_cons]
    refine ⟨?_, by omega, fun y hy => ?_⟩
    · rcases h1 with h1 | h1
      · by_cases c : a ≤ x
        · right; rw [h1, show min x a = a by omega]; exact List.mem_cons_self
        · left; rw [h1]; omega
      · right; exact List.mem_cons_of_mem _ h1
    · rcases List.mem_cons.mp hy with rfl | hy
      · omega
      · exact h3 y hy
theorem maxI_uniq {ns : List Int} {z w : Int} (h : maxI ns = some z) (h1 : w ∈ ns) (h2 : ∀ y ∈ ns, y ≤ w) : w = z := by
  cases ns with
  | nil => cases h
  | cons x r =>
    cases h
    obtain ⟨g1, g2, g3⟩ := foldl_max r x
    have a : r.foldl max x ≤ w := by
      rcases g1 with g | g
      · rw [g]; exact h2 x List.mem_cons_self
      · exact h2 _ (List.mem_cons_of_mem _ g)
    have b : w ≤ r.foldl max x := by
      rcases List.mem_cons.mp h1 with rfl | h
      · exact g2
      · exact g3 w h
    omega
theorem minI_uniq {ns : List Int} {z w : Int} (h : minI ns = some z) (h1 : w ∈ ns) (h2 : ∀ y ∈ ns, w ≤ y) : w = z := by
  cases ns with
  | nil => cases h
  | cons x r =>
    cases h
    obtain ⟨g1, g2, g3⟩ := foldl_min r x
    have a : w ≤ r.foldl min x := by
      rcases g1 with g | g
      · rw [g]; exact h2 x List.mem_cons_self
      · exact h2 _ (List.mem_cons_of_mem _ g)
    have b : r.foldl min x ≤ w := by
      rcases List.mem_cons.mp h1 with rfl | h
      · exact g2
      · exact g3 w h
    omega
def maxLD : List D → Option D
  | [.lst xs] => (intsOf xs).bind fun ns => (maxI ns).map .int
  | _ => none
def minLD : List D → Option D
  | [.lst xs] => (intsOf xs).bind fun ns => (minI ns).map .int
  | _ => none
theorem maxI_pos {ns : List Int} {z : Int} (h : maxI ns = some z) : 0 < ns.length := by cases ns <;> simp [maxI] at h ⊢
theorem minI_pos {ns : List Int} {z : Int} (h : minI ns = some z) : 0 < ns.length := by cases ns <;> simp [minI] at h ⊢
theorem cd_maxL : CallD m (rMax m.K) maxLD := fun vs ds d H Q r e k => by
  unfold maxLD at e
  split at e
  · obtain ⟨v, rfl, rv⟩ := one_of r
    rename_i xs
    cases q : intsOf xs with
    | none => rw [q] at e; cases e
    | some ns =>
      rw [q] at e
      cases q2 : maxI ns with
      | none => simp [q2] at e
      | some z =>
        simp [q2] at e; subst e
        cases rv with
        | lst qa rl =>
          have := ints_rep rl q
          subst this
          exact ⟨_, ns, rfl, qa.sq, maxI_pos q2, fun w h1 h2 => by rw [maxI_uniq q2 h1 h2]; exact k _ H Grow.rfl (.int _)⟩
  · cases e
theorem cd_minL : CallD m (rMin m.K) minLD := fun vs ds d H Q r e k => by
  unfold minLD at e
  split at e
  · obtain ⟨v, rfl, rv⟩ := one_of r
    rename_i xs
    cases q : intsOf xs with
    | none => rw [q] at e; cases e
    | some ns =>
      rw [q] at e
      cases q2 : minI ns with
      | none => simp [q2] at e
      | some z =>
        simp [q2] at e; subst e
        cases rv with
        | lst qa rl =>
          have := ints_rep rl q
          subst this
          exact ⟨_, ns, rfl, qa.sq, minI_pos q2, fun w h1 h2 => by rw [minI_uniq q2 h1 h2]; exact k _ H Grow.rfl (.int _)⟩
  · cases e
def absD : List D → Option D
  | [.int i] => some (.int (if i < 0 then -i else i))
  | _ => none
theorem cd_abs : CallD m (fun xs H Q => ∃ i, xs = [.int i] ∧ Q (.int (if i < 0 then -i else i)) H) absD := fun vs ds d H Q r e k => by
  unfold absD at e
  split at e
  · obtain ⟨v, rfl, rv⟩ := one_of r
    cases e; cases rv
    exact ⟨_, rfl, k _ H Grow.rfl (.int _)⟩
  · cases e
def listCD : List D → Option (List D)
  | [.lst xs] => some xs
  | [.tup xs] => some xs
  | _ => none
theorem co_list : CallO m (fun xs H Q => ∃ p ys, xs = [.ref p] ∧ (SqL m.K H p ys ∨ SqT m.K H p ys) ∧ ∀ l, H l = none → Q (.ref l) (upd H l (.lst ys))) listCD := fun vs ds d H Q r e k => by
  unfold listCD at e
  split at e
  · obtain ⟨v, rfl, rv⟩ := one_of r
    cases e
    cases rv with
    | lst q rl => exact ⟨_, _, rfl, .inl q.sq, fun l hl => k l _ _ (Grow.new hl) hl upd_same (rl.st (Grow.new hl).stable)⟩
  · obtain ⟨v, rfl, rv⟩ := one_of r
    cases e
    cases rv with
    | tup q rl => exact ⟨_, _, rfl, .inr q, fun l hl => k l _ _ (Grow.new hl) hl upd_same (rl.st (Grow.new hl).stable)⟩
  · cases e
end
end DL
end
section
namespace DL
open PySem PySem.Spec L2
open PyProof.Rows hiding St
section
variable {m : Md}
/-! ### methods that change an own list -/
def appD : List D → List D → Option (D × List D) := fun xs as => match as with
  | [y] => if xs.length < sizeLine then some (.non, xs ++ [y]) else none
  | _ => none
theorem mo_append : MtO m rAppend appD := fun a vs args xs ds d ys H Q ha r ra e k => by
  unfold appD at e
  split at e
  · obtain ⟨v, rfl, rv⟩ := one_of ra
    split at e
    · rename_i c
      cases e
      exact ⟨a, vs, v, rfl, rfl, ha, by rw [r.len]; exact c, k .non _ (r.append (.cons rv .nil)) .non⟩
    · cases e
  · cases e
def popD : List D → List D → Option (D × List D) := fun xs as => match as with
  | [] => (xs[xs.length - 1]?).map fun y => (y, xs.dropLast)
  | _ => none
theorem RepL.dropLast {H : Hp} : ∀ {vs : List V} {ds : List D}, RepL m H vs ds → RepL m H vs.dropLast ds.dropLast
  | _, [], h => by cases h; exact .nil
  | _, [d], h => by
    cases h with
    | cons a b => cases b; exact .nil
  | _, d :: e :: ds, h => by
    cases h with
    | cons a b =>
      cases b with
      | cons b c => exact .cons a (RepL.dropLast (.cons b c))
theorem mo_pop : MtO m rPop popD := fun a vs args xs ds d ys H Q ha r ra e k => by
  unfold popD at e
  split at e
  · cases ra
    cases q : xs[xs.length - 1]? with
    | none => rw [q] at e; cases e
    | some y =>
      rw [q] at e; cases e
      obtain ⟨v, h1, h2⟩ := r.get q
      exact ⟨a, vs, v, rfl, rfl, ha, by rw [r.len]; exact h1, k v _ r.dropLast h2⟩
  · cases e
/-- extend by a frozen list -/
def rExtF (K : PySem.W.Frag) : V → List V → Hp → VK → Prop := fun x vs H Q => ∃ l b xs zs, x = .ref l ∧ vs = [.ref b] ∧ H l = some (.lst xs) ∧ SqF K H b zs ∧ xs.length + zs.length ≤ sizeLine ∧ Q .non (upd H l (.lst (xs ++ zs)))
theorem mt_extF {X : Cx} : MtR X "list.extend" (rExtF X.K) := by
  intro pins s σ H x vs v us Q I rx rv ⟨l, b, xs, zs, ex, ev, hH, hB, hz, q⟩
  subst ex; subst ev
  cases rx
  obtain ⟨u, rfl, ru⟩ := rv.one
  cases ru
  obtain ⟨_, i1, n1, r1, _, e1⟩ := I.lstM hH
  obtain ⟨i2, n2, r2, e2⟩ := isL_of I hB
  have l1 := r1.length
  have l2 := r2.length
  have sz : i1.toArray.size + i2.toArray.size ≤ sizeLine := by simp only [List.size_toArray]; omega
  have nl : ¬ (!i1.toArray.isEmpty && Builtin.List.listTooLong (i1.toArray.size + i2.toArray.size)) = true := by rw [notLongL sz, Bool.and_false]; decide
  exact call_meets PySem.F.slot_list_extend ⟨_, e1, rfl⟩ PySem.F.entry_list_extend (PySem.F.args_list_extend_2 _ _) (AutoSeq1.list_extend_list_list_0 l _ n1 b _ n2 nl (by simp only [List.size_toArray]; omega) (by omega))
    ⟨e1, e2, .non, _, I.lset (its' := i1 ++ i2) hH e1 (by simp) (r1.append r2) (by rw [List.length_append]; exact hz), rfl, q⟩
def extD : List D → List D → Option (D × List D) := fun xs as => match as with
  | [.lst ys] => if xs.length + ys.length ≤ sizeLine then some (.non, xs ++ ys) else none
  | _ => none
theorem mo_extend : MtO m (rExtF m.K) extD := fun a vs args xs ds d ys H Q ha r ra e k => by
  unfold extD at e
  split at e
  · obtain ⟨v, rfl, rv⟩ := one_of ra
    split at e
    · rename_i c
      cases e
      cases rv with
      | lst q rl => exact ⟨a, _, vs, _, rfl, rfl, ha, q, by rw [r.len, rl.len]; exact c, k .non _ (r.append rl) .non⟩
    · cases e
  · cases e
/-! ### methods that read a list -/
end
section
variable {X : Cx} {G : Gh} {W : WX} {e : Expr} {es : List Expr} {pos : Pos}
/-- x.m(..), x data -/
def MtV (m : Md) (r : V → List V → Hp → VK → Prop) (g : D → List D → Option D) : Prop :=
  ∀ (x : V) (vs : List V) (dx d : D) (ds : List D) (H : Hp) (Q : VK), Rep m H x dx → RepL m H vs ds → g dx ds = some d → (∀ v H', Grow H H' → Rep m H' v d → Q v H') → r x vs H Q
def tyD (T : String) : D → Bool
  | .str _ => T == "str"
  | .int _ => T == "int"
  | .lst _ => T == "list"
  | _ => false
def tyM (T : String) (f : M D) : M D := bindM f fun d => if tyD T d = true then pureM d else stuckM
def mtV (T : String) (g : D → List D → Option D) (fo : M D) (fa : M (List D)) : M D := bindM (tyM T fo) fun x => bindM fa fun ds => liftM (g x ds)
theorem tyD_ok {m : Md} {H : Hp} {v : V} {d : D} {T : String} (r : Rep m H v d) (h : tyD T d = true) : tyV m.K T v H := by
  cases r with
  | int i => exact (beq_iff_eq.mp h)
  | str i => exact (beq_iff_eq.mp h)
  | lst q rl => exact .inl ⟨beq_iff_eq.mp h, _, q.sq⟩
  | _ => exact absurd h (by simp [tyD])
theorem mtV_run {T : String} {r : V → List V → Hp → VK → Prop} {g : D → List D → Option D} {to : TE} {t : TA} {fo : M D} {fa : M (List D)} (hK : G.m.K = X.K) (hr : MtV G.m r g) (io : ∀ σ H Q, dT G W fo σ H Q → to σ H Q) (ia : ∀ σ H Q, aT G W fa σ H Q → t σ H Q) {σ : L2.St} {H : Hp} {Q : VK} (h : dT G W (mtV T g fo fa) σ H Q) : tBM X.K T r to t σ H Q := by
  obtain ⟨ρ, k, q⟩ := h
  refine io _ _ _ ⟨ρ, k, q.bind.bind.mono fun d ρ1 H1 _ s1 k1 q1 v rv => ?_⟩
  by_cases c : tyD T d = true
  · rw [if_pos c] at q1
    refine ⟨by rw [← hK]; exact tyD_ok rv c, ia _ _ _ ⟨ρ1, k1, (q1 H1 Stable.rfl k1).bind.mono fun ds ρ2 H2 _ s2 k2 q2 vs rs => ?_⟩⟩
    obtain ⟨z, e, q3⟩ := q2.lift k2
    exact hr v vs d z ds H2 Q (rv.st s2) rs e fun u H3 g3 r3 => q3 H3 g3.stable (k2.grow g3) u r3
  · rw [if_neg c] at q1; exact q1.elim
theorem de_bm {o : Expr} {name : Str} {apos : Pos} {T id : String} {r : V → List V → Hp → VK → Prop} {g : D → List D → Option D} {fo : M D} {fa : M (List D)} (hK : G.m = ⟨X.K, X.mg, X.w⟩) (pa : PlainAttrs T) (slot : Slot T name id) (hty : typeOf (.builtin id) = pure (.type "method_descriptor")) (hm : MtR X id r) (hr : MtV G.m r g) (ho : DE X G W o fo) (ha : DA X G W (e :: es) fa)
    (hbase : attributeBase o name X.env (eval o X.env) = eval o X.env := by rfl)
    (hfew : ((backTo pos (starEach (e :: es) X.env)).all (fun x => !x.1) && (backToKw pos (keywordEach [] X.env)).all (fun x => x.1.isSome)
      && decide ((e :: es).length + ([] : List Keyword).length + (if ([] : List Keyword).isEmpty then 0 else 1) < 30)) = true := by rfl)
    (hline : (apos.endLine == pos.line) = true := by rfl) (hs : starEach (e :: es) X.env = (false, eval e X.env) :: starEach es X.env := by rfl) (hplain : (backTo pos (starEach es X.env)).any (·.1) = false := by rfl) :
    DE X G W (.Call (.Attribute o name apos) (e :: es) [] pos) (mtV T g fo fa) :=
  pe_imp (pe_bm pa slot hty hm ho ha hbase hfew hline hs hplain) fun σ H Q h => mtV_run (by rw [hK]) hr (fun _ _ _ z => z) (fun _ _ _ z => z) h
/-- count, index of flat things -/
def flatD : D → Bool
  | .non => true
  | .bl _ => true
  | .int _ => true
  | .str _ => true
  | _ => false
def eqF : D → D → Bool
  | .non, .non => true
  | .bl a, .bl b => a == b
  | .bl a, .int b => (if a then 1 else 0) == b
  | .int a, .bl b => a == (if b then 1 else 0)
  | .int a, .int b => a == b
  | .str a, .str b => a == b
  | _, _ => false
theorem flat_rep {m : Md} {H : Hp} {v : V} {d : D} (r : Rep m H v d) (h : flatD d = true) : flatV v = true := by
  cases r <;> first | rfl | simp [flatD] at h
theorem eqF_rep {m : Md} {H : Hp} {v w : V} {d e : D} (r : Rep m H v d) (r' : Rep m H w e) (h : flatD d = true) (h' : flatD e = true) : eqV v w = eqF d e := by
  cases r <;> cases r' <;> first | rfl | simp [flatD] at h h'
theorem flats_rep {m : Md} {H : Hp} : ∀ {ds : List D} {vs : List V}, RepL m H vs ds → ds.all flatD = true → vs.all flatV = true
  | [], _, r, _ => by cases r; rfl
  | d :: ds, _, r, h => by
    cases r with
    | cons a b =>
      rw [List.all_cons, Bool.and_eq_true] at h
      rw [List.all_cons, Bool.and_eq_true]
      exact ⟨flat_rep a h.1, flats_rep b h.2⟩
def rCntF (K : PySem.W.Frag) : V → List V → Hp → VK → Prop := fun x xs H Q => ∃ (a : Addr) (ys : List V) (y : V), x = V.ref a ∧ xs = [y] ∧ SqL K H a ys ∧ flatV y = true ∧ ys.all flatV = true ∧ Q (.int ((ys.countP fun z => eqV z y : Nat) : Int)) H
theorem cnt_eqU {y : V} : ∀ {ys : List V} {us : List Value}, Vals ys us → ys.all flatV = true → us.countP (eqU y) = ys.countP fun z => eqV z y
  | _, _, .nil, _ => rfl
  | z :: ys, u :: us, .cons r t, f => by
    rw [List.all_cons, Bool.and_eq_true] at f
    rw [List.countP_cons, List.countP_cons, cnt_eqU t f.2, eqU_of r f.1]
theorem mt_cntF : MtR X "list.count" (rCntF X.K) := by
  intro pins s σ H x xs v us Q I rx rxs ⟨a, ys, y, ex, exs, hs, fy, fys, q⟩
  subst ex; subst exs
  cases rx
  obtain ⟨u, rfl, ru⟩ := rxs.one
  obtain ⟨its, rv, ⟨⟨c, dd, dt, sl⟩, n, ho, h1, h2, h3⟩, _⟩ := I.list hs
  dsimp only at h1 h2 h3
  subst h1; subst h3
  refine call_meets PySem.F.slot_list_count ⟨_, ho, rfl⟩ PySem.F.entry_list_count (PySem.F.args_list_count_2 _ _) (SeqAt.list_countAt a its.toArray n dd sl u (eqU y)) ⟨ho, fun z hz => mem_eqAt ru fy rv fys z (by simpa using hz), ?_⟩
  have e2 : its.toArray.toList.countP (eqU y) = ys.countP fun z => eqV z y := cnt_eqU rv fys
  refine ⟨.int ((ys.countP fun z => eqV z y : Nat) : Int), H, I.tok _, ⟨s.toks, ?_⟩, q⟩
  rw [← e2]
def cntD (x : D) (as : List D) : Option D := match x, as with
  | .lst xs, [y] => if (flatD y && xs.all flatD) = true then some (.int ((xs.countP fun z => eqF z y : Nat) : Int)) else none
  | _, _ => none
theorem cnt_rep {m : Md} {H : Hp} {w : V} {y : D} (rw' : Rep m H w y) (fy : flatD y = true) : ∀ {xs : List D} {vs : List V}, RepL m H vs xs → xs.all flatD = true → (vs.countP fun z => eqV z w) = xs.countP fun z => eqF z y
  | [], _, r, _ => by cases r; rfl
  | d :: xs, _, r, h => by
    cases r with
    | cons a b =>
      rw [List.all_cons, Bool.and_eq_true] at h
      rw [List.countP_cons, List.countP_cons, cnt_rep rw' fy b h.2, eqF_rep a rw' h.1 fy]
theorem mv_count {m : Md} : MtV m (rCntF m.K) cntD := fun x vs dx d ds H Q rx rs e k => by
  unfold cntD at e
  split at e
  · obtain ⟨w, rfl, rw'⟩ := one_of rs
    split at e
    · rename_i c
      rw [Bool.and_eq_true] at c
      cases e
      cases rx with
      | lst q rl => exact ⟨_, _, w, rfl, rfl, q.sq, flat_rep rw' c.1, flats_rep rl c.2, by rw [cnt_rep rw' c.1 rl c.2]; exact k _ H Grow.rfl (.int _)⟩
    · cases e
  · cases e
def idxD (x : D) (as : List D) : Option D := match x, as with
  | .lst xs, [y] => if (flatD y && xs.all flatD) = true then (xs.findIdx? fun z => eqF z y).map fun (j : Nat) => .int (j : Int) else none
  | _, _ => none
theorem mv_index {m : Md} : MtV m (rIndex m.K) idxD := fun x vs dx d ds H Q rx rs e k => by
  unfold idxD at e
  split at e
  · obtain ⟨w, rfl, rw'⟩ := one_of rs
    rename_i xs y
    split at e
    · rename_i c
      rw [Bool.and_eq_true] at c
      cases q : (xs.findIdx? fun z => eqF z y) with
      | none => rw [q] at e; cases e
      | some j =>
        rw [q] at e; cases e
        cases rx with
        | @lst a ws _ qa rl =>
          obtain ⟨hj, h1, h2⟩ := List.findIdx?_eq_some_iff_getElem.mp q
          obtain ⟨v, e1, e2⟩ := rl.get (List.getElem?_eq_getElem hj)
          have fl : ∀ (n : Nat) (hn : n < xs.length), flatD xs[n] = true := fun n hn => List.all_eq_true.mp c.2 _ (List.getElem_mem hn)
          refine ⟨a, ws, w, j, v, rfl, rfl, qa.sq, flat_rep rw' c.1, flats_rep rl c.2, e1, by rw [eqF_rep e2 rw' (fl j hj) c.1]; exact h1, fun n z' hn hz => ?_, k _ H Grow.rfl (.int _)⟩
          obtain ⟨d', g1, g2⟩ := rl.getV hz
          have hn' : n < xs.length := by omega
          rw [List.getElem?_eq_getElem hn'] at g1
          cases g1
          rw [eqF_rep g2 rw' (fl n hn') c.1]
          simpa using h2 n hn
    · cases e
  · cases e
/-! ### isinstance of data -/
def isTy (T : String) : D → Option Bool
  | .non => some false
  | .bl _ => some (T == "bool" || T == "int")
  | .int _ => some (T == "int")
  | .str _ => some (T == "str")
  | .lst _ => some (T == "list")
  | .tup _ => some (T == "tuple")
  | .dic ks _ => if ks.all isK = true then some (T == "dict") else none
  | .ins _ _ _ => none
def isiM (T : String) (f : M D) : M D := bindM f fun d => liftM ((isTy T d).map .bl)
end
end DL
end
section
namespace DL
open PySem PySem.Spec L2
open PyProof.Rows hiding St

/-! ### try .. except X as e -/
section
variable {G : Gh} {σ : L2.St} {H : Hp} {ρ : DL.Env}
theorem StOk.setNo (k : StOk G σ H ρ) {i : Nat} (hp : pfree G i) : StOk G (σ.set i none) H (ρ.set i .no) := by
  have nin : ∀ {j : Nat} {s : Sl}, (ρ.set i .no)[j]? = some s → s ≠ .no → i ≠ j ∧ ρ[j]? = some s := fun {j s} h hs => by
    rcases set_get h with ⟨_, e, _⟩ | ⟨e, h⟩
    · exact absurd e hs
    · exact ⟨e, h⟩
  refine ⟨by simp [k.len], fun j x h => ?_, fun j xs h => ?_, fun j l xs ys b ne h1 h2 h3 => ?_, fun p hm => ?_, k.keep, fun j c h => ?_⟩
  · obtain ⟨n, h⟩ := nin h (fun z => by cases z)
    rw [List.getElem?_set_ne n]; exact k.dat j x h
  · obtain ⟨n, h⟩ := nin h (fun z => by cases z)
    rw [List.getElem?_set_ne n]; exact k.own j xs h
  · obtain ⟨n1, h1⟩ := nin h1 (fun z => by cases z)
    obtain ⟨n2, h2⟩ := nin h2 (fun z => by cases z)
    rw [List.getElem?_set_ne n1] at h3
    rw [List.getElem?_set_ne n2]; exact k.sep j l xs ys b ne h1 h2 h3
  · obtain ⟨q1, xs, q2⟩ := k.prot p hm
    have n : i ≠ p.1 := fun z => hp p hm z.symm
    exact ⟨by rw [List.getElem?_set_ne n]; exact q1, xs, by rw [List.getElem?_set_ne n]; exact q2⟩
  · obtain ⟨n, h⟩ := nin h (fun z => by cases z)
    rw [List.getElem?_set_ne n]; exact k.exn j c h
def Gh.hot (G : Gh) (a : Addr) (c : Str) : Gh := { G with ex := some (a, c) }
theorem StOk.heat (k : StOk G σ H ρ) {i : Nat} {a : Addr} {c : Str} (hx : G.ex = none) (hp : pfree G i) : StOk (G.hot a c) (σ.set i (some (.ref a))) H (ρ.set i (.exn c)) := by
  have nin : ∀ {j : Nat} {s : Sl}, (ρ.set i (.exn c))[j]? = some s → (∀ c', s ≠ .exn c') → i ≠ j ∧ ρ[j]? = some s := fun {j s} h hs => by
    rcases set_get h with ⟨_, e, _⟩ | ⟨e, h⟩
    · exact absurd e (hs c)
    · exact ⟨e, h⟩
  refine ⟨by simp [k.len], fun j x h => ?_, fun j xs h => ?_, fun j l xs ys b ne h1 h2 h3 => ?_, fun p hm => ?_, k.keep, fun j c' h => ?_⟩
  · obtain ⟨n, h⟩ := nin h (fun _ z => by cases z)
    rw [List.getElem?_set_ne n]; exact k.dat j x h
  · obtain ⟨n, h⟩ := nin h (fun _ z => by cases z)
    rw [List.getElem?_set_ne n]; exact k.own j xs h
  · obtain ⟨n1, h1⟩ := nin h1 (fun _ z => by cases z)
    obtain ⟨n2, h2⟩ := nin h2 (fun _ z => by cases z)
    rw [List.getElem?_set_ne n1] at h3
    rw [List.getElem?_set_ne n2]; exact k.sep j l xs ys b ne h1 h2 h3
  · obtain ⟨q1, xs, q2⟩ := k.prot p hm
    have n : i ≠ p.1 := fun z => hp p hm z.symm
    exact ⟨by rw [List.getElem?_set_ne n]; exact q1, xs, by rw [List.getElem?_set_ne n]; exact q2⟩
  · rcases set_get h with ⟨e, e2, hl⟩ | ⟨e, h⟩
    · cases e2; subst e
      exact ⟨a, rfl, by rw [List.getElem?_set_self (by rw [k.len]; exact hl)]⟩
    · obtain ⟨b, h1, _⟩ := k.exn j c' h
      rw [hx] at h1; cases h1
/-- the suite is left: no slot holds the exception any more -/
def noExn (ρ : DL.Env) : Bool := ρ.all fun s => match s with
  | .exn _ => false
  | _ => true
theorem StOk.cool {a : Addr} {c : Str} (k : StOk (G.hot a c) σ H ρ) (h : noExn ρ = true) : StOk G σ H ρ :=
  ⟨k.len, k.dat, k.own, k.sep, k.prot, k.keep, fun i c' e => by
    have := List.all_eq_true.mp h _ (List.mem_of_getElem? e)
    simp at this⟩
end
/-- slot i holds the exception in the suite; sub: whether the clause's class is over the exception's -/
def tryM (i : Nat) (sub : Str → Option Bool) (body : MS) (suite : Str → MS) : MS := fun ρ => match body ρ with
  | .exc c ρ1 => match sub c with
    | some true => (match suite c (ρ1.set i (.exn c)) with
      | .ok fl ρ2 => if noExn (ρ2.set i .no) = true then .ok fl (ρ2.set i .no) else .stuck
      | _ => .stuck)
    | some false => .exc c ρ1
    | none => .stuck
  | r => r
theorem RetOk.hot {rm : RM} {G : Gh} {a : Addr} {c : Str} {H : Hp} {v : V} {d : D} (r : RetOk rm (G.hot a c) H v d) : RetOk rm G H v d := by
  cases rm <;> exact r
section
variable {X : Cx} {G : Gh} {W : WX} {rm : RM}
theorem ds_try (i : Nat) {x n : Str} {cv : Value} {sub : Str → Option Bool} {body suite : List Stmt} {b0 : Stmt} {np pos pos' : Pos} {bm : MS} {sm : Str → MS} (hx : G.ex = none) (hGK : G.m = ⟨X.K, X.mg, X.w⟩) (pf : pfree G i) (hsub : ∀ (c : Str) (C : Addr) (b : Bool), X.mg c = some (.ref C) → sub c = some b → PySem.W.exmOne X.K (.ref C) cv = some b)
    (hs : X.stack = X.env :: X.outer) (hf : X.env.frame = some X.env.locals) (hN : X.N.Nodup) (hi : X.N[i]? = some n) (hln : X.env.kindOf n = some .local) (hc : Names X x cv) (tk : Takes X W)
    (hb : ∀ (W' : WX) (pn : List (Addr × Obj)) (xe : Value → Shared → Prop), Takes (X.tr pn xe) W' → PassesOwn (model X.prog X.w) X.A X.env xe → DSs (X.tr pn xe) G W' rm body bm)
    (hsu : ∀ (a : Addr) (oe : Obj) (C : Addr) (c : Str) (pn : List (Addr × Obj)), X.mg c = some (.ref C) → sub c = some true → Zc (.ref C) none oe → (∃ vs, oe.data = .fields vs) → DSs (X.suite a ((a, oe) :: pn)) ⟨G.m, G.H0, G.pr, some (a, c)⟩ W0 rm (b0 :: suite) (sm c)) :
    DS X G W rm (.Try body [.ExceptHandler (some (.Name x np)) (some n) (b0 :: suite) pos'] [] [] pos) (tryM i sub bm sm) := by
  refine ps_imp (ps_try_as (ts := fun a cls d E σ H => ∃ (C : Addr) (c : Str), cls = .ref C ∧ d = none ∧ X.mg c = some (.ref C) ∧ sub c = some true ∧ sT (G.hot a c) W0 rm (sm c) E σ H) hs hf hN hi hln hc tk hb
    (fun a oe cls d pn hz hv => ⟨fun pins s σ H E I ⟨C, c, e1, e2, e3, e4, q⟩ => ?_⟩)) fun E σ H ⟨ρ, k, q⟩ => ?_
  · subst e1; subst e2
    exact (hsu a oe C c pn e3 e4 hz hv).run pins s σ H E I q
  · refine ⟨ρ, k, ?_⟩
    unfold tryM at q
    cases e : bm ρ with
    | ok fl ρ1 => rw [e] at q; cases fl <;> exact q
    | stuck => rw [e] at q; exact q
    | exc c ρ1 =>
      simp only [e] at q
      intro σ1 C H1 eC s1 k1
      have eC' : X.mg c = some (.ref C) := by rw [hGK] at eC; exact eC
      cases e2 : sub c with
      | none => simp only [e2] at q; exact q.elim
      | some b =>
        refine ⟨b, hsub c C b eC' e2, fun hb a ha => ?_, fun hb => ?_⟩
        · subst hb
          simp only [e2] at q
          refine ⟨C, c, rfl, rfl, eC', e2, ρ1.set i (.exn c), k1.heat hx pf, ?_⟩
          cases e3 : sm c (ρ1.set i (.exn c)) with
          | ok fl ρ2 =>
            simp only [e3] at q
            by_cases hn : noExn (ρ2.set i .no) = true
            · simp only [hn, if_true] at q
              cases fl with
              | nx => exact fun σ2 H2 s2 k2 => q _ H2 (s1.trans s2) ((StOk.setNo k2 pf).cool hn)
              | brk => exact fun σ2 H2 s2 k2 => q _ H2 (s1.trans s2) ((StOk.setNo k2 pf).cool hn)
              | ct => exact fun σ2 H2 s2 k2 => q _ H2 (s1.trans s2) ((StOk.setNo k2 pf).cool hn)
              | ret d => exact fun v σ2 H2 s2 k2 r => q v _ H2 (s1.trans s2) ((StOk.setNo k2 pf).cool hn) r.hot
            · simp only [hn] at q; exact q.elim
          | exc c2 ρ2 => simp only [e3] at q; exact q.elim
          | stuck => simp only [e3] at q; exact q.elim
        · subst hb
          simp only [e2] at q
          exact q σ1 C H1 eC s1 k1

/-! ### the handled exception: its class -/
def exnM (i : Nat) (g : Str → Option Bool) : M D := fun ρ => match ρ[i]? with
  | some (.exn c) => (match g c with
    | some b => .ok (.bl b) ρ
    | none => .stuck)
  | _ => .stuck
/-- what stands at the handled exception -/
structure HotX (X : Cx) (a : Addr) (C : Addr) (oe : Obj) : Prop where
  pn : (a, oe) ∈ X.pn
  zc : Zc (.ref C) none oe
  fl : ∃ vs, oe.data = .fields vs
theorem cr_isE {a C : Addr} {oe : Obj} (hx : HotX X a C oe) (ec : ExcC X.K C) : CallR X (.builtin "isinstance") (rIsE X.K C a) := by
  intro pins s σ H xs us Q I r ⟨c, cv, b, e1, hcv, e2, q⟩
  subst e1
  cases r with
  | cons r1 r =>
    cases r with
    | cons r2 r =>
      cases r; cases r1
      rw [hcv _ r2]
      obtain ⟨oc, od, dt, sl⟩ := oe
      obtain ⟨z1, z2⟩ := hx.zc
      obtain ⟨vs, z3⟩ := hx.fl
      dsimp only at z1 z2 z3
      subst z1; subst z2; subst z3
      have J : PySem.W.InstAt s.heap a { cls := .ref C, dict := none, data := .fields vs, slots := sl } C none := ⟨(I.pin _ (List.mem_append_left _ hx.pn)).1, rfl, rfl, trivial⟩
      have KX := PySem.W.handS_kitx_exc (x := a) (ox := { cls := .ref C, dict := none, data := .fields vs, slots := sl }) ec.hg ec.hk ec.hs ec.hd ec.ha ec.hn ec.ht ec.hm
      exact PySem.W.kia_one KX I.kIn J e2 (fun z => by cases z) fun tk => ⟨.bl b, H, I.kept (t' := tk) fun _ _ z => z, rfl, q⟩
/-- isinstance(e, c), e the handled exception in slot i; c a class of the module or a built-in one -/
theorem de_isE (i : Nat) {y : Str} {ce : Expr} {a C : Addr} {c : Str} {oe : Obj} {cV : V} {cv : Value} {g : Str → Option Bool} {p p2 pos : Pos} (hx : HotX X a C oe) (ec : ExcC X.K C) (hex : G.ex = some (a, c)) (hcls : PE X ce (tC cV)) (hcv : ∀ u, RelV cV u → u = cv) (hg' : ∀ b, g c = some b → PySem.W.kitOne X.K (.ref C) cv = some b)
    (hg : Gl X "isinstance") (hm : X.mg "isinstance" = none) (hN : X.N[i]? = some y) (hv : Vis X.env.scope y := by first | exact .inl rfl | exact .inr (.inl rfl) | exact .inr (.inr rfl)) (hd : (y == ("__debug__" : Str)) = false := by decide) (hcd : (y == ("__classdict__" : Str)) = false := by decide)
    (hs : starEach [.Name y p2, ce] X.env = (false, eval (.Name y p2) X.env) :: starEach [ce] X.env := by rfl) (hs2 : starEach [ce] X.env = (false, eval ce X.env) :: starEach [] X.env := by rfl) (hpl : (backTo pos (starEach [ce] X.env)).any (·.1) = false := by rfl) :
    DE X G W (.Call (.Name "isinstance" p) [.Name y p2, ce] [] pos) (exnM i g) :=
  pe_imp (pe_callB (cr_isE hx ec) hg hm (by decide +kernel) (pa_cons (pe_var (i := i) hN hv hd hcd) (pa_cons hcls pa_nil hs2) hs) (by decide) (by decide) hs hpl) fun σ H Q ⟨ρ, k, q⟩ => by
    unfold exnM at q
    cases e : ρ[i]? with
    | none => simp only [e] at q; exact q.elim
    | some s =>
      cases s with
      | exn c' =>
        simp only [e] at q
        obtain ⟨b, h1, h2⟩ := k.exn i c' e
        rw [hex] at h1
        cases h1
        cases e2 : g c with
        | none => simp only [e2] at q; exact q.elim
        | some bb =>
          simp only [e2] at q
          exact ⟨_, h2, cV, cv, bb, rfl, hcv, hg' bb e2, q H Stable.rfl k _ (.bl bb)⟩
      | no => simp only [e] at q; exact q.elim
      | d x => simp only [e] at q; exact q.elim
      | cell x => simp only [e] at q; exact q.elim

/-! ### a def called in the suite -/
structure FnX (P : Program) (w : World) (K : PySem.W.Frag) (mg : Str → Option Value) (base : Heap) (k : Nat) (f : Addr) (fd : FuncData) (ps : List Str) (p : Addr × Obj) (sp : Sp) : Prop where
  len : ∀ vs H Q E, sp vs H Q E → vs.length = ps.length
  run : ∀ (A : Around) (outer : List PySem.Env) (s : Shared) (H : Hp) (args : Args) (us : List Value) (vs : List V) (Q : VK) (E : XK), L2H.RoomH k A → L2H.PinOk outer H s p → Env0 P w K mg base A outer s H →
    BindsTo s fd args (ps.zip us) → Vals vs us → sp vs H Q E → codeAny (model P w) A (.call (.ref f) args) (CR CX0 outer P w H s Q E) s
/-- .. that raises nothing -/
def spX (m : Md) (ex : Option (Addr × Str)) (md : List Bool) (rm : RM) (f : Fn) : Sp := fun vs H Q _ => spD m ex md rm f vs H Q fun _ _ _ => False
end
end DL
end
section
namespace DL
open PySem PySem.Spec L2
open PyProof.Rows hiding St

/-! ### a def of the text, a def's promise, by name -/
def DefIn (K : PySem.W.Frag) (mg : Str → Option Value) (x : Str) (st : Stmt) (fA : Addr) (fd : FuncData) : Prop := mg x = some (.ref fA) ∧ FunD K x x (defArgs st) (defBody st) (defScope st) [] [] fA fd
structure DFn (P : Program) (w : World) (K : PySem.W.Frag) (mg : Str → Option Value) (base : Heap) (x : Str) (k : Nat) (md : List Bool) (rm : RM) (f : Fn) : Prop where
  ex : ∃ fA fd ps, mg x = some (.ref fA) ∧ PySem.W.keepIn K (.ref fA) = true ∧ Binds K fd ps [] ∧ FnOk P w K mg base (L2.CX P w) k fA fd ps (spD ⟨K, mg, w⟩ none md rm f)
theorem DFn.mono {P : Program} {w : World} {K : PySem.W.Frag} {mg : Str → Option Value} {base : Heap} {x : Str} {j k : Nat} {md : List Bool} {rm : RM} {f : Fn} (h : DFn P w K mg base x j md rm f) (hj : j ≤ k) : DFn P w K mg base x k md rm f := by
  obtain ⟨fA, fd, ps, h1, h2, h3, h4⟩ := h.ex
  exact ⟨fA, fd, ps, h1, h2, h3, h4.mono hj⟩
abbrev BindsF (x : Str) (st : Stmt) (ps : List Str) : Prop := ∀ (kV doc pm : Value) (an : Option Addr) (cdv ct : Value) (us : List Value), us.length = ps.length → bindArgs (PySem.W.fnOf x x (defArgs st) (defBody st) (defScope st) .none kV doc pm an cdv ct) ⟨us, []⟩ = pure (ps.zip us)
theorem dfn_ok {P : Program} {w : World} {K : PySem.W.Frag} {mg : Str → Option Value} {base : Heap} {x : Str} {st : Stmt} {fA : Addr} {fd : FuncData} {k : Nat} {N ps : List Str} {md : List Bool} {rm : RM} {bm : MS} (Dn : DefIn K mg x st fA fd) (S : FnScope N ps (defScope st)) (hmd : md.length = ps.length) (hb : BindsF x st ps)
    (D : ∀ (cdv : Value) (A : Around) (outer : List PySem.Env) (s : Shared) (H : Hp) (E : XK) (H0 : Hp) (pr : List (Nat × Addr)), (∀ i, md.getD i false = false → pfree ⟨⟨K, mg, w⟩, H0, pr, none⟩ i) → Room k (A.deeper (envOfC x (defScope st) s.heap.objs.size fA cdv)) →
      Takes (cxOf (L2.CX P w) P w K mg base N x (defScope st) fA cdv A outer s H E) (fun cls d _ H => E cls d H) → DSs (cxOf (L2.CX P w) P w K mg base N x (defScope st) fA cdv A outer s H E) ⟨⟨K, mg, w⟩, H0, pr, none⟩ (fun cls d _ H => E cls d H) rm (defBody st) bm) :
    DFn P w K mg base x (k + 1) md rm (fnM rm.b N.length bm) := by
  obtain ⟨h1, F⟩ := Dn
  exact ⟨fA, fd, ps, h1, F.kp, F.bindsN hb, fn_ok F S hmd D⟩
section
variable {X : Cx} {G : Gh} {W : WX} {e : Expr} {es : List Expr} {pos p : Pos} {x : Str} {j k : Nat} {md : List Bool} {f : Fn} {fa : M (List Ag)}
theorem de_calls (hex : G.ex = none) (hm0 : G.m = ⟨X.K, X.mg, X.w⟩) (tk : Takes X W) (C : DFn X.prog X.w X.K X.mg X.base x j md .f f) (hr : Room k X.A) (hk : j ≤ k) (hg : Gl X x) (ha : DG X G W (e :: es) fa) (hdb : (x == ("__debug__" : Str)) = false := by decide) (he : starEach (e :: es) X.env = (false, eval e X.env) :: starEach es X.env := by rfl) (hpl : (backTo pos (starEach es X.env)).any (·.1) = false := by rfl) :
    DE X G W (.Call (.Name x p) (e :: es) [] pos) (callM f (mdM md fa)) := by
  obtain ⟨fA, fd, ps, h1, h2, h3, h4⟩ := C.ex
  exact de_call hex hm0 tk h4 (hr.mono hk) hg h1 h2 h3 ha hdb he hpl
/-- an own exception class -/
structure ExcIn (K : PySem.W.Frag) (mg : Str → Option Value) (x : Str) : Prop where
  ex : ∃ C, mg x = some (.ref C) ∧ PySem.W.excIn K C He.veBase "ValueError.__new__" = true ∧ PySem.W.keepIn K (.ref C) = true ∧ PySem.W.subIn K (.ref C) (.type "BaseException") = some true ∧ PySem.W.typeIn K (.ref C) = some (.type "type")
theorem ds_raises {rm : RM} {z : Str} {j : Nat} {p2 pos2 : Pos} (hK : G.m = ⟨X.K, X.mg, X.w⟩) (hc : X.calm = true) (tk : Takes X W) (T : ExcIn X.K X.mg x) (hg : Gl X x) (hdb : (x == ("__debug__" : Str)) = false := by decide) :
    DS X G W rm (.Raise (some (.Call (.Name x p) [.Constant (.str z) j p2] [] pos)) none pos2) (raiseM x) := by
  obtain ⟨C, h1, h2, h3, h4, h5⟩ := T.ex
  exact ds_raise hK hc tk h2 h1 h3 (raises_own h4 h5) hg hdb
/-- -n -/
def negM (f : M D) : M D := bindM f fun d => match d with
  | .int i => pureM (.int (-i))
  | _ => stuckM
theorem de_neg {f : M D} (h : DE X G W e f) : DE X G W (.UnaryOp .USub e pos) (negM f) := pe_imp (pe_un un_neg h) fun σ H Q ⟨ρ, k, q⟩ => ⟨ρ, k, q.bind.mono fun d ρ1 H1 _ s1 k1 q1 v r => by
  cases r with
  | int i => exact ⟨i, rfl, q1 H1 Stable.rfl k1 _ (.int _)⟩
  | _ => exact q1.elim⟩
end
end DL
end
section
namespace DL
open PySem PySem.Spec L2
open PyProof.Rows hiding St

/-! ### the module's own exception classes: tab tells each one's supers (itself too) -/
abbrev ExTab := List (Str × List Str)
def subT (tab : ExTab) (t c : Str) : Option Bool := (tab.lookup c).map fun sup => sup.contains t
structure Exs (K : PySem.W.Frag) (mg : Str → Option Value) (tab : ExTab) : Prop where
  cls : ∀ c sup, tab.lookup c = some sup → ∃ C, mg c = some (.ref C) ∧ PySem.W.excIn K C He.veBase "ValueError.__new__" = true ∧ PySem.W.keepIn K (.ref C) = true ∧ PySem.W.subIn K (.ref C) (.type "BaseException") = some true ∧ PySem.W.typeIn K (.ref C) = some (.type "type") ∧ ExcC K C ∧
    (∀ t supt, tab.lookup t = some supt → ∃ Ct, mg t = some (.ref Ct) ∧ PySem.W.kitOne K (.ref C) (.ref Ct) = some (sup.contains t) ∧ PySem.W.exmOne K (.ref C) (.ref Ct) = some (sup.contains t)) ∧ PySem.W.kitOne K (.ref C) (.type "ValueError") = some true
/-- the same as a computation -/
def excCB (K : PySem.W.Frag) (D : Addr) : Bool :=
  decide (PySem.W.findIn K (.ref D) "__getattribute__" = some (some (.builtin "BaseException.__getattribute__"))) && (decide (PySem.W.findIn K (.ref D) "__getattr__" = some none) && (PySem.W.hasDictIn K D &&
  (decide (PySem.W.findIn K (.ref D) "__class__" = some (some (.builtin "object.__class__"))) && (decide (PySem.W.specialIn K (.builtin "object.__class__") "__get__" = some (some (.builtin "getset_descriptor.__get__"))) &&
  (decide (PySem.W.takesIn K (.builtin "object.__class__") = some true) && decide (PySem.W.mroIn K D (.type "object") = some true))))))
def exsB (K : PySem.W.Frag) (tab : ExTab) : Bool := tab.all fun p =>
  decide (PySem.W.nsIn K mainGlobals p.1 = some (some (.ref (He.ga K p.1)))) && (PySem.W.excIn K (He.ga K p.1) He.veBase "ValueError.__new__" && (PySem.W.keepIn K (.ref (He.ga K p.1)) && (decide (PySem.W.subIn K (.ref (He.ga K p.1)) (.type "BaseException") = some true) &&
  (decide (PySem.W.typeIn K (.ref (He.ga K p.1)) = some (.type "type")) && (excCB K (He.ga K p.1) && ((tab.all fun q => decide (PySem.W.kitOne K (.ref (He.ga K p.1)) (.ref (He.ga K q.1)) = some (p.2.contains q.1)) && decide (PySem.W.exmOne K (.ref (He.ga K p.1)) (.ref (He.ga K q.1)) = some (p.2.contains q.1))) &&
  decide (PySem.W.kitOne K (.ref (He.ga K p.1)) (.type "ValueError") = some true)))))))
theorem lookup_mem {α β : Type} [BEq α] [LawfulBEq α] {a : α} {b : β} : ∀ {l : List (α × β)}, l.lookup a = some b → (a, b) ∈ l
  | [], h => by simp at h
  | (x, y) :: l, h => by
    rw [List.lookup_cons] at h
    split at h
    · rename_i e
      have := beq_iff_eq.mp e
      cases h; subst this; exact List.mem_cons_self
    · exact List.mem_cons_of_mem _ (lookup_mem h)
theorem exsB_ok {K : PySem.W.Frag} {h : Heap} {mg : Str → Option Value} {tab : ExTab} (X : K.In h) (G : h.Ns mainGlobals mg) (e : exsB K tab = true) : Exs K mg tab := by
  have un := fun (p : Str × List Str) hp => List.all_eq_true.mp e p hp
  refine ⟨fun c sup hc => ?_⟩
  have q := un _ (lookup_mem hc)
  simp only [Bool.and_eq_true, decide_eq_true_eq] at q
  obtain ⟨q1, q2, q3, q4, q5, q6, q7, q8⟩ := q
  unfold excCB at q6
  simp only [Bool.and_eq_true, decide_eq_true_eq] at q6
  obtain ⟨r1, r2, r3, r4, r5, r6, r7⟩ := q6
  refine ⟨_, PySem.W.mg_of X G q1, q2, q3, q4, q5, ⟨r1, r2, q4, r3, r4, r5, r6, r7⟩, fun t supt ht => ?_, q8⟩
  have z := List.all_eq_true.mp q7 _ (lookup_mem ht)
  simp only [Bool.and_eq_true, decide_eq_true_eq] at z
  have zt := un _ (lookup_mem ht)
  simp only [Bool.and_eq_true, decide_eq_true_eq] at zt
  exact ⟨_, PySem.W.mg_of X G zt.1, z.1, z.2⟩
theorem subT_inv {tab : ExTab} {t c : Str} {b : Bool} (h : subT tab t c = some b) : ∃ sup, tab.lookup c = some sup ∧ sup.contains t = b := by
  unfold subT at h
  cases e : tab.lookup c with
  | none => rw [e] at h; cases h
  | some sup => rw [e] at h; cases h; exact ⟨sup, rfl, rfl⟩
theorem Exs.exc {K : PySem.W.Frag} {mg : Str → Option Value} {tab : ExTab} (T : Exs K mg tab) (x : Str) (h : (tab.lookup x).isSome = true) : ExcIn K mg x := by
  obtain ⟨sup, e⟩ := Option.isSome_iff_exists.mp h
  obtain ⟨C, h1, h2, h3, h4, h5, _⟩ := T.cls x sup e
  exact ⟨C, h1, h2, h3, h4, h5⟩
/-- the handled exception, told for a suite -/
structure HotB (X : Cx) (a : Addr) (c : Str) (C : Addr) (oe : Obj) : Prop where
  mg : X.mg c = some (.ref C)
  hx : HotX X a C oe
section
variable {X : Cx} {G : Gh} {W : WX} {rm : RM} {tab : ExTab}
theorem ds_tryT (i : Nat) {x n : Str} {body suite : List Stmt} {b0 : Stmt} {np pos pos' : Pos} {bm : MS} {sm : Str → MS} (hx : G.ex = none) (hGK : G.m = ⟨X.K, X.mg, X.w⟩) (pf : pfree G i) (T : Exs X.K X.mg tab) (hxt : (tab.lookup x).isSome = true) (hg : Gl X x) (hdb : (x == ("__debug__" : Str)) = false)
    (hs : X.stack = X.env :: X.outer) (hf : X.env.frame = some X.env.locals) (hN : X.N.Nodup) (hi : X.N[i]? = some n) (hln : X.env.kindOf n = some .local) (tk : Takes X W)
    (hb : ∀ (W' : WX) (pn : List (Addr × Obj)) (xe : Value → Shared → Prop), Takes (X.tr pn xe) W' → PassesOwn (model X.prog X.w) X.A X.env xe → DSs (X.tr pn xe) G W' rm body bm)
    (hsu : ∀ (a : Addr) (oe : Obj) (C : Addr) (c : Str) (pn : List (Addr × Obj)), HotB (X.suite a ((a, oe) :: pn)) a c C oe → DSs (X.suite a ((a, oe) :: pn)) ⟨G.m, G.H0, G.pr, some (a, c)⟩ W0 rm (b0 :: suite) (sm c)) :
    DS X G W rm (.Try body [.ExceptHandler (some (.Name x np)) (some n) (b0 :: suite) pos'] [] [] pos) (tryM i (subT tab x) bm sm) := by
  obtain ⟨supx, ex⟩ := Option.isSome_iff_exists.mp hxt
  obtain ⟨Cx0, gx, _⟩ := T.cls x supx ex
  exact ds_try (cv := .ref Cx0) i hx hGK pf (fun c C b e1 e2 => by
      obtain ⟨sup, e3, e4⟩ := subT_inv e2
      obtain ⟨C', h1, _, _, _, _, _, h2, _⟩ := T.cls c sup e3
      rw [e1] at h1; cases h1
      obtain ⟨Ct, h3, _, h4⟩ := h2 x supx ex
      rw [gx] at h3; cases h3
      rw [h4, e4]) hs hf hN hi hln ⟨hg, hdb, .inl gx⟩ tk hb
    (fun a oe C c pn e1 _ hz hv => hsu a oe C c pn ⟨e1, ⟨List.mem_cons_self, hz, hv⟩⟩)
theorem de_isEc (i : Nat) {y t : Str} {a C : Addr} {c : Str} {oe : Obj} {p p2 p3 pos : Pos} (hx : HotB X a c C oe) (T : Exs X.K X.mg tab) (ht : (tab.lookup t).isSome = true) (hex : G.ex = some (a, c)) (hgt : Gl X t) (hdt : (t == ("__debug__" : Str)) = false)
    (hg : Gl X "isinstance") (hm : X.mg "isinstance" = none) (hN : X.N[i]? = some y) (hv : Vis X.env.scope y := by first | exact .inl rfl | exact .inr (.inl rfl) | exact .inr (.inr rfl)) (hd : (y == ("__debug__" : Str)) = false := by decide) (hcd : (y == ("__classdict__" : Str)) = false := by decide)
    (hs : starEach [.Name y p2, .Name t p3] X.env = (false, eval (.Name y p2) X.env) :: starEach [.Name t p3] X.env := by rfl) (hs2 : starEach [.Name t p3] X.env = (false, eval (.Name t p3) X.env) :: starEach [] X.env := by rfl) (hpl : (backTo pos (starEach [.Name t p3] X.env)).any (·.1) = false := by rfl) :
    DE X G W (.Call (.Name "isinstance" p) [.Name y p2, .Name t p3] [] pos) (exnM i (fun c => subT tab t c)) := by
  obtain ⟨supt, et⟩ := Option.isSome_iff_exists.mp ht
  obtain ⟨Ct, gt, _⟩ := T.cls t supt et
  by_cases hc : (tab.lookup c).isSome = true
  · obtain ⟨sup, ec⟩ := Option.isSome_iff_exists.mp hc
    obtain ⟨C', h1, _, _, _, _, hE, h2, _⟩ := T.cls c sup ec
    rw [hx.mg] at h1; cases h1
    obtain ⟨Ct', h3, h4, _⟩ := h2 t supt et
    rw [gt] at h3; cases h3
    exact de_isE (cV := .ref Ct) (cv := .ref Ct) i hx.hx hE hex (pe_glob hgt gt rfl hdt) (fun u r => r) (fun b e => by
      unfold subT at e; rw [ec] at e; cases e; exact h4) hg hm hN hv hd hcd hs hs2 hpl
  · refine ⟨fun pins s σ H Q I ⟨ρ, k, q⟩ => ?_⟩
    exfalso
    have e0 : tab.lookup c = none := Option.not_isSome_iff_eq_none.mp hc
    unfold exnM at q
    cases e : ρ[i]? with
    | none => simp only [e] at q; exact q.elim
    | some sl =>
      cases sl with
      | exn c' =>
        simp only [e] at q
        obtain ⟨b, h1, _⟩ := k.exn i c' e
        rw [hex] at h1; cases h1
        simp only [subT, e0, Option.map_none] at q
        exact q.elim
      | no => simp only [e] at q; exact q.elim
      | d x => simp only [e] at q; exact q.elim
      | cell x => simp only [e] at q; exact q.elim
/-- isinstance(e, ValueError) -/
theorem de_isEv (i : Nat) {y : Str} {a C : Addr} {c : Str} {oe : Obj} {p p2 p3 pos : Pos} (hx : HotB X a c C oe) (T : Exs X.K X.mg tab) (hex : G.ex = some (a, c)) (hgt : Gl X "ValueError") (hmt : X.mg "ValueError" = none)
    (hg : Gl X "isinstance") (hm : X.mg "isinstance" = none) (hN : X.N[i]? = some y) (hv : Vis X.env.scope y := by first | exact .inl rfl | exact .inr (.inl rfl) | exact .inr (.inr rfl)) (hd : (y == ("__debug__" : Str)) = false := by decide) (hcd : (y == ("__classdict__" : Str)) = false := by decide)
    (hs : starEach [.Name y p2, .Name "ValueError" p3] X.env = (false, eval (.Name y p2) X.env) :: starEach [.Name "ValueError" p3] X.env := by rfl) (hs2 : starEach [.Name "ValueError" p3] X.env = (false, eval (.Name "ValueError" p3) X.env) :: starEach [] X.env := by rfl) (hpl : (backTo pos (starEach [.Name "ValueError" p3] X.env)).any (·.1) = false := by rfl) :
    DE X G W (.Call (.Name "isinstance" p) [.Name y p2, .Name "ValueError" p3] [] pos) (exnM i (fun c => (tab.lookup c).map fun _ => true)) := by
  by_cases hc : (tab.lookup c).isSome = true
  · obtain ⟨sup, ec⟩ := Option.isSome_iff_exists.mp hc
    obtain ⟨C', h1, _, _, _, _, hE, _, h2⟩ := T.cls c sup ec
    rw [hx.mg] at h1; cases h1
    exact de_isE (cV := .ty "ValueError") (cv := .type "ValueError") i hx.hx hE hex (pe_bltn hgt hmt (by decide +kernel) rfl) (fun u r => r) (fun b e => by
      rw [ec] at e; cases e; exact h2) hg hm hN hv hd hcd hs hs2 hpl
  · refine ⟨fun pins s σ H Q I ⟨ρ, k, q⟩ => ?_⟩
    exfalso
    have e0 : tab.lookup c = none := Option.not_isSome_iff_eq_none.mp hc
    unfold exnM at q
    cases e : ρ[i]? with
    | none => simp only [e] at q; exact q.elim
    | some sl =>
      cases sl with
      | exn c' =>
        simp only [e] at q
        obtain ⟨b, h1, _⟩ := k.exn i c' e
        rw [hex] at h1; cases h1
        simp only [e0, Option.map_none] at q
        exact q.elim
      | no => simp only [e] at q; exact q.elim
      | d x => simp only [e] at q; exact q.elim
      | cell x => simp only [e] at q; exact q.elim
end
/-! ### a def called with the handled exception -/
structure DFnX (P : Program) (w : World) (K : PySem.W.Frag) (mg : Str → Option Value) (base : Heap) (x : Str) (k : Nat) (md : List Bool) (f : Fn) : Prop where
  ex : ∃ fA fd ps, mg x = some (.ref fA) ∧ PySem.W.keepIn K (.ref fA) = true ∧ Binds K fd ps [] ∧ ∀ (p : Addr × Obj) (c : Str) (C : Addr), mg c = some (.ref C) → Zc (.ref C) none p.2 → (∃ vs, p.2.data = .fields vs) → FnX P w K mg base k fA fd ps p (spX ⟨K, mg, w⟩ (some (p.1, c)) md .f f)
section
variable {X : Cx} {G : Gh} {e : Expr} {es : List Expr} {pos p : Pos} {x : Str} {j : Nat} {md : List Bool} {f : Fn} {fa : M (List Ag)}
/-- len of an own list -/
def lenO (i : Nat) : M D := bindM (getO i) fun xs => pureM (.int xs.length)
end
end DL
end
section
namespace DL
open PySem PySem.Spec L2
open PyProof.Rows hiding St

/-! ### the head: the facts of HeadHook2 and one computation more -/
abbrev AlE : Type := He.AlD × Bool
def obsE (n : Nat) (fa : List He.Fa) (fn : List He.DefD) (xt : PySem.W.Frag → Bool) (g : Addr → Option Obj) : AlE := (He.obsDG n fa fn g, xt (He.frG g (He.asD g n)))
def hookE (n : Nat) (fa : List He.Fa) (fn : List He.DefD) (xt : PySem.W.Frag → Bool) : PySem.W.Hook where
  α := AlE
  obs := fun s => obsE n fa fn xt s.heap.get?
  val := fun _ => (He.valD fn, true)
  says := fun _ h => ∃ K : PySem.W.Frag, K.In h ∧ He.SaysD fa fn K ∧ xt K = true
  of := fun _ s e => ⟨He.frG s.heap.get? (He.asD s.heap.get? n), He.frG_in, congrArg (fun z : AlE => z.1) e, congrArg (fun z : AlE => z.2) e⟩
  keeps := fun _ _ _ ⟨K, h1, h2, h3⟩ k => ⟨K, PySem.W.Frag.In.keeps h1 k, h2, h3⟩
theorem obsE_eq {n : Nat} {fa : List He.Fa} {fn : List He.DefD} {xt : PySem.W.Frag → Bool} {g : Addr → Option Obj} {s : Shared} (h : ∀ a, g a = s.heap.get? a) : obsE n fa fn xt g = (hookE n fa fn xt).obs s := by
  rw [show g = s.heap.get? from funext h]; rfl
/-- the lists of the written part have no slots -/
def slotsB (K : PySem.W.Frag) : Bool := K.all fun p => match p.2.cls with
  | .type c => c != "list" || p.2.slots.isEmpty
  | _ => true
theorem slotsB_ok {K : PySem.W.Frag} (h : slotsB K = true) {a : Addr} {o : Obj} (e : K.lookup a = some o) (c : o.cls = .type "list") : o.slots = #[] := by
  have q := List.all_eq_true.mp h _ (lookup_mem e)
  simp only [c, Bool.or_eq_true] at q
  rcases q with q | q
  · simp at q
  · exact Array.isEmpty_iff.mp q
theorem script_ok {m : Md} {H : Hp} {a : Addr} {ns : List Int} (hs : slotsB m.K = true) (hO : Only H) (h : SqL m.K H a (ns.map V.int)) : Rep m H (.ref a) (.lst (ns.map D.int)) := by
  have r : RepL m H (ns.map V.int) (ns.map D.int) := by
    induction ns with
    | nil => exact .nil
    | cons n ns ih =>
      refine .cons (.int n) ?_
      clear h ih
      induction ns with
      | nil => exact .nil
      | cons n ns ih => exact .cons (.int n) ih
  refine .lst ?_ r
  rcases h with (h | ⟨o, h⟩) | ⟨o, its, n, h1, h2, h3, h4, h5, h6⟩
  · rcases hO a with e | ⟨o, xs, e⟩
    · rw [h] at e; cases e
    · rw [h] at e; cases e
  · exact .inl ⟨o, h⟩
  · have z := slotsB_ok hs h1 h2
    obtain ⟨oc, od, dt, sl⟩ := o
    dsimp only at h2 h3 h4 z
    subst h2; subst h3; subst h4; subst z
    exact .inr ⟨its, n, h1, h5, h6⟩
/-- the law's promise from the mirror's answer -/
theorem law_sp {m : Md} {f : Fn} {H : Hp} {a : Addr} {ns : List Int} (hs : slotsB m.K = true) (hO : Only H) (h : SqL m.K H a (ns.map V.int)) (e : f [.d (.lst (ns.map D.int))] = .ok (.bl true) []) : spD m none [false] .f f [.ref a] H (fun v _ => v = .bl true) fun _ _ _ => False := by
  refine ⟨[.d (.lst (ns.map D.int))], rfl, ⟨rfl, fun i x h => ?_, fun i xs h => ?_, fun i j xs ys b ne h => ?_, fun i c h => ?_⟩, ?_⟩
  · cases i with
    | zero => simp at h; subst h; exact ⟨_, rfl, script_ok hs hO ‹_›⟩
    | succ i => simp at h
  · cases i <;> simp at h
  · cases i <;> simp at h
  · cases i <;> simp at h
  · rw [e]
    intro v H' _ _ _ r
    cases r; rfl
theorem walk_ofX {l : PySem.W.OpenLaw} {n k : Nat} {q : Program} {loose : List Str} {XP : (Str → Option Value) → Heap → Prop} {YP : World → Heap → Prop} {d : DefRec} {CX : World → CXT} {x : Str} (hn : l.most = some n) (hn2 : n ≤ sizeLine) (hdf : d.params.defaults = []) (hr : Room k callerA)
    (F : ∀ (w : World) (mg : Str → Option Value) (fa : Addr) (h : Heap), YP w h → h.Ns mainGlobals mg → mg d.name = some (.ref fa) → ∃ (K : PySem.W.Frag) (fd : FuncData) (sp : Sp), K.In h ∧ (∀ (s : Shared) (u : Value), BindsTo s fd ⟨[u], []⟩ [(x, u)]) ∧
      (∀ (H : Hp) (a : Addr) (ns : List Int), ns.length ≤ n → Only H → SqL K H a (ns.map V.int) → sp [.ref a] H (fun v _ => v = .bl true) fun _ _ _ => False) ∧ ∀ base : Heap, K.In base → base.Ns mainGlobals mg → FnOk l.prog w K mg base (CX w) k fa fd [x] sp)
    (hCX : ∀ (w : World) (H : Hp) (s : Shared) (e : Value) (s' : Shared), CX w [] H s (fun _ _ _ => False) e s' → False) : PySem.W.WalkO q loose XP YP l.row.toRowW d [] (fun f vs => PySem.call f vs) := by
  refine Att.attach_call hn hdf fun w t0 t1 mg mb fa o pm cd doc a vs ns Gr Y e1 e2 e3 hmg e4 e5 hlen e6 => ?_
  obtain ⟨K, fd, sp, hK, hb, hsp, hF⟩ := F w mg fa _ Y Gr.T.g hmg
  exact law_call hK Gr.T.g Gr.T.b Gr.T.builtins Gr.T.nolimit e6 e4 e5 (Nat.le_trans hlen hn2) hr hF hb (fun H h1 h2 => hsp H a ns hlen h1 h2) fun H e s' => hCX w H t1 e s'
theorem cx_none {P : Program} {w : World} {H : Hp} {s : Shared} {e : Value} {s' : Shared} (h : L2.CX P w [] H s (fun _ _ _ => False) e s') : False := by
  obtain ⟨_, _, _, _, _, _, _, _, _, _, _, _, hE⟩ := h
  exact hE
/-- a def of the text from the head's facts -/
theorem def_in {fa : List He.Fa} {fn : List He.DefD} {K : PySem.W.Frag} {h : Heap} {mg : Str → Option Value} (X : K.In h) (G : h.Ns mainGlobals mg) (c : He.SaysD fa fn K) {x : Str} {st : Stmt} (i j : Nat) (hi : fn[i]? = some ⟨(x, none), x, x, defArgs st, defBody st, defScope st, [], []⟩) (hj : fa[j]? = some (.glo x)) : ∃ fd, DefIn K mg x st (He.ga K x) fd := by
  obtain ⟨fd, F⟩ := c.def_ i hi
  exact ⟨fd, He.glo_ok X G (c.fact j hj), F⟩
end DL
end
namespace DL
open PySem PySem.Spec L2
open PyProof.Rows hiding St
def tab : ExTab := [("YardError", ["YardError", "ValueError"]), ("BadYard", ["BadYard", "YardError", "ValueError"]), ("BadPosition", ["BadPosition", "YardError", "ValueError"]), ("NoMove", ["NoMove", "YardError", "ValueError"]), ("BadSide", ["BadSide", "YardError", "ValueError"]), ("BadPaper", ["BadPaper", "YardError", "ValueError"]), ("TooMany", ["TooMany", "YardError", "ValueError"]), ("NoWin", ["NoWin", "YardError", "ValueError"])]
def top (i : Nat) : Stmt := PySem.Challenge.pw_pieceyard_k45_refusals_of_papers.main.body.getD i (.Pass ⟨0, 0, 0, 0⟩)
def inCls : Stmt → Nat → Stmt
  | .ClassDef _ _ _ body _ _ _ _ _ _ _, j => body.getD j (.Pass ⟨0, 0, 0, 0⟩)
  | s, _ => s
abbrev s_is_piece : Stmt := top 11
abbrev N_is_piece : List Str := ["yard", "piece", "cell", "side", "kind"]
abbrev P_is_piece : List Str := ["yard", "piece"]
abbrev s_crowns : Stmt := top 12
abbrev N_crowns : List Str := ["yard", "pieces", "side", "cell", "other", "kind"]
abbrev P_crowns : List Str := ["yard", "pieces", "side"]
abbrev s_is_position : Stmt := top 13
abbrev N_is_position : List Str := ["yard", "position", "turn", "pieces", "piece", "k"]
abbrev P_is_position : List Str := ["yard", "position"]
abbrev s_check_position : Stmt := top 14
abbrev N_check_position : List Str := ["yard", "position"]
abbrev P_check_position : List Str := ["yard", "position"]
abbrev s_piece_at : Stmt := top 15
abbrev N_piece_at : List Str := ["pieces", "cell", "other", "side", "kind"]
abbrev P_piece_at : List Str := ["pieces", "cell"]
abbrev s_turned_step : Stmt := top 17
abbrev N_turned_step : List Str := ["step", "side"]
abbrev P_turned_step : List Str := ["step", "side"]
abbrev s_gone : Stmt := top 18
abbrev N_gone : List Str := ["cell", "step", "count"]
abbrev P_gone : List Str := ["cell", "step", "count"]
abbrev s_may_end : Stmt := top 19
abbrev N_may_end : List Str := ["yard", "pieces", "side", "cell", "there"]
abbrev P_may_end : List Str := ["yard", "pieces", "side", "cell"]
abbrev s_ride : Stmt := top 20
abbrev N_ride : List Str := ["yard", "pieces", "side", "cell", "step", "found", "count"]
abbrev P_ride : List Str := ["yard", "pieces", "side", "cell", "step"]
abbrev s_ways_of : Stmt := top 21
abbrev N_ways_of : List Str := ["yard", "pieces", "piece", "cell", "side", "kind", "leaps", "rides", "crown", "found", "step", "count"]
abbrev P_ways_of : List Str := ["yard", "pieces", "piece"]
abbrev s_all_ways : Stmt := top 22
abbrev N_all_ways : List Str := ["yard", "position", "turn", "pieces", "found", "piece", "cell", "way"]
abbrev P_all_ways : List Str := ["yard", "position"]
abbrev s_on_goal : Stmt := top 24
abbrev N_on_goal : List Str := ["yard", "pieces", "side", "cell"]
abbrev P_on_goal : List Str := ["yard", "pieces", "side"]
abbrev s_verdict_of : Stmt := top 25
abbrev N_verdict_of : List Str := ["yard", "position", "turn", "pieces", "side"]
abbrev P_verdict_of : List Str := ["yard", "position"]
abbrev s_moves_of : Stmt := top 27
abbrev N_moves_of : List Str := ["yard", "position", "move", "way"]
abbrev P_moves_of : List Str := ["yard", "position"]
abbrev s_after_of : Stmt := top 28
abbrev N_after_of : List Str := ["position", "move", "turn", "pieces", "found", "cell", "side", "kind"]
abbrev P_after_of : List Str := ["position", "move"]
abbrev s_next_ones : Stmt := top 31
abbrev N_next_ones : List Str := ["yard", "position", "move"]
abbrev P_next_ones : List Str := ["yard", "position"]
abbrev s_reach_of : Stmt := top 32
abbrev N_reach_of : List Str := ["yard", "position", "found", "left", "here", "there"]
abbrev P_reach_of : List Str := ["yard", "position"]
abbrev s_reach : Stmt := top 33
abbrev N_reach : List Str := ["yard", "position"]
abbrev P_reach : List Str := ["yard", "position"]
abbrev s_rank_by : Stmt := top 34
abbrev N_rank_by : List Str := ["verdict", "turn", "behind", "mine", "rank"]
abbrev P_rank_by : List Str := ["verdict", "turn", "behind"]
abbrev s_ranks_of : Stmt := top 35
abbrev N_ranks_of : List Str := ["yard", "nexts", "found", "ends", "position", "left", "number", "going", "fresh", "rank", "there"]
abbrev P_ranks_of : List Str := ["yard", "nexts"]
abbrev s_ranks : Stmt := top 36
abbrev N_ranks : List Str := ["yard", "position"]
abbrev P_ranks : List Str := ["yard", "position"]
abbrev s_is_rank : Stmt := top 37
abbrev N_is_rank : List Str := ["rank"]
abbrev P_is_rank : List Str := ["rank"]
abbrev s_check_paper : Stmt := top 38
abbrev N_check_paper : List Str := ["yard", "told", "position"]
abbrev P_check_paper : List Str := ["yard", "told"]
abbrev s_ranks_hold : Stmt := top 39
abbrev N_ranks_hold : List Str := ["yard", "told", "position", "nexts", "behind", "there"]
abbrev P_ranks_hold : List Str := ["yard", "told"]
abbrev s_win_move : Stmt := top 40
abbrev N_win_move : List Str := ["yard", "told", "position", "rank", "move"]
abbrev P_win_move : List Str := ["yard", "told", "position"]
abbrev s_check_side : Stmt := top 42
abbrev N_check_side : List Str := ["side"]
abbrev P_check_side : List Str := ["side"]
abbrev s_stay : Stmt := top 43
abbrev N_stay : List Str := ["yard", "position", "side", "found", "kept", "there"]
abbrev P_stay : List Str := ["yard", "position", "side"]
abbrev s_stays_on : Stmt := top 44
abbrev N_stays_on : List Str := ["yard", "side", "told", "position", "verdict", "inside", "there"]
abbrev P_stays_on : List Str := ["yard", "side", "told", "position"]
abbrev s_stay_holds : Stmt := top 45
abbrev N_stay_holds : List Str := ["yard", "position", "side", "told", "there", "k"]
abbrev P_stay_holds : List Str := ["yard", "position", "side", "told"]
abbrev s_stay_move : Stmt := top 46
abbrev N_stay_move : List Str := ["yard", "told", "position", "move"]
abbrev P_stay_move : List Str := ["yard", "told", "position"]
abbrev s_rising : Stmt := top 52
abbrev N_rising : List Str := ["row", "k"]
abbrev P_rising : List Str := ["row"]
abbrev s_is_step : Stmt := top 53
abbrev N_is_step : List Str := ["step"]
abbrev P_is_step : List Str := ["step"]
abbrev s_is_kind : Stmt := top 54
abbrev N_is_kind : List Str := ["letter", "kind", "leaps", "rides", "crown", "step"]
abbrev P_is_kind : List Str := ["letter", "kind"]
abbrev s_law_cell_at : Stmt := top 57
abbrev N_law_cell_at : List Str := ["script", "k"]
abbrev P_law_cell_at : List Str := ["script", "k"]
abbrev s_law_asked : Stmt := top 58
abbrev N_law_asked : List Str := ["yard", "position", "side", "way"]
abbrev P_law_asked : List Str := ["yard", "position", "side", "way"]
abbrev s_law_kind : Stmt := top 59
abbrev N_law_kind : List Str := ["yard", "position", "side", "way", "e", "marks"]
abbrev P_law_kind : List Str := ["yard", "position", "side", "way"]
abbrev s_law : Stmt := top 60
abbrev N_law : List Str := ["script", "kinds", "yard", "good", "bad", "cell", "k", "at", "way"]
abbrev P_law : List Str := ["script"]
abbrev s_Yard_ini : Stmt := inCls (top 55) 0
abbrev N_Yard_ini : List Str := ["self", "height", "width", "holes", "kinds", "goals", "stuck", "row", "letter", "leaps", "rides", "crown", "cell"]
abbrev P_Yard_ini : List Str := ["self", "height", "width", "holes", "kinds", "goals", "stuck"]
abbrev s_Yard_on_board : Stmt := inCls (top 55) 1
abbrev N_Yard_on_board : List Str := ["self", "cell"]
abbrev P_Yard_on_board : List Str := ["self", "cell"]
abbrev s_Yard_is_free : Stmt := inCls (top 55) 2
abbrev N_Yard_is_free : List Str := ["self", "cell"]
abbrev P_Yard_is_free : List Str := ["self", "cell"]
abbrev s_Yard_cells : Stmt := inCls (top 55) 3
def d_is_piece : He.DefD := ⟨("is_piece", none), "is_piece", "is_piece", defArgs s_is_piece, defBody s_is_piece, defScope s_is_piece, [], []⟩
def d_crowns : He.DefD := ⟨("crowns", none), "crowns", "crowns", defArgs s_crowns, defBody s_crowns, defScope s_crowns, [], []⟩
def d_is_position : He.DefD := ⟨("is_position", none), "is_position", "is_position", defArgs s_is_position, defBody s_is_position, defScope s_is_position, [], []⟩
def d_check_position : He.DefD := ⟨("check_position", none), "check_position", "check_position", defArgs s_check_position, defBody s_check_position, defScope s_check_position, [], []⟩
def d_piece_at : He.DefD := ⟨("piece_at", none), "piece_at", "piece_at", defArgs s_piece_at, defBody s_piece_at, defScope s_piece_at, [], []⟩
def d_turned_step : He.DefD := ⟨("turned_step", none), "turned_step", "turned_step", defArgs s_turned_step, defBody s_turned_step, defScope s_turned_step, [], []⟩
def d_gone : He.DefD := ⟨("gone", none), "gone", "gone", defArgs s_gone, defBody s_gone, defScope s_gone, [], []⟩
def d_may_end : He.DefD := ⟨("may_end", none), "may_end", "may_end", defArgs s_may_end, defBody s_may_end, defScope s_may_end, [], []⟩
def d_ride : He.DefD := ⟨("ride", none), "ride", "ride", defArgs s_ride, defBody s_ride, defScope s_ride, [], []⟩
def d_ways_of : He.DefD := ⟨("ways_of", none), "ways_of", "ways_of", defArgs s_ways_of, defBody s_ways_of, defScope s_ways_of, [], []⟩
def d_all_ways : He.DefD := ⟨("all_ways", none), "all_ways", "all_ways", defArgs s_all_ways, defBody s_all_ways, defScope s_all_ways, [], []⟩
def d_on_goal : He.DefD := ⟨("on_goal", none), "on_goal", "on_goal", defArgs s_on_goal, defBody s_on_goal, defScope s_on_goal, [], []⟩
def d_verdict_of : He.DefD := ⟨("verdict_of", none), "verdict_of", "verdict_of", defArgs s_verdict_of, defBody s_verdict_of, defScope s_verdict_of, [], []⟩
def d_moves_of : He.DefD := ⟨("moves_of", none), "moves_of", "moves_of", defArgs s_moves_of, defBody s_moves_of, defScope s_moves_of, [], []⟩
def d_after_of : He.DefD := ⟨("after_of", none), "after_of", "after_of", defArgs s_after_of, defBody s_after_of, defScope s_after_of, [], []⟩
def d_next_ones : He.DefD := ⟨("next_ones", none), "next_ones", "next_ones", defArgs s_next_ones, defBody s_next_ones, defScope s_next_ones, [], []⟩
def d_reach_of : He.DefD := ⟨("reach_of", none), "reach_of", "reach_of", defArgs s_reach_of, defBody s_reach_of, defScope s_reach_of, [], []⟩
def d_reach : He.DefD := ⟨("reach", none), "reach", "reach", defArgs s_reach, defBody s_reach, defScope s_reach, [], []⟩
def d_rank_by : He.DefD := ⟨("rank_by", none), "rank_by", "rank_by", defArgs s_rank_by, defBody s_rank_by, defScope s_rank_by, [], []⟩
def d_ranks_of : He.DefD := ⟨("ranks_of", none), "ranks_of", "ranks_of", defArgs s_ranks_of, defBody s_ranks_of, defScope s_ranks_of, [], []⟩
def d_ranks : He.DefD := ⟨("ranks", none), "ranks", "ranks", defArgs s_ranks, defBody s_ranks, defScope s_ranks, [], []⟩
def d_is_rank : He.DefD := ⟨("is_rank", none), "is_rank", "is_rank", defArgs s_is_rank, defBody s_is_rank, defScope s_is_rank, [], []⟩
def d_check_paper : He.DefD := ⟨("check_paper", none), "check_paper", "check_paper", defArgs s_check_paper, defBody s_check_paper, defScope s_check_paper, [], []⟩
def d_ranks_hold : He.DefD := ⟨("ranks_hold", none), "ranks_hold", "ranks_hold", defArgs s_ranks_hold, defBody s_ranks_hold, defScope s_ranks_hold, [], []⟩
def d_win_move : He.DefD := ⟨("win_move", none), "win_move", "win_move", defArgs s_win_move, defBody s_win_move, defScope s_win_move, [], []⟩
def d_check_side : He.DefD := ⟨("check_side", none), "check_side", "check_side", defArgs s_check_side, defBody s_check_side, defScope s_check_side, [], []⟩
def d_stay : He.DefD := ⟨("stay", none), "stay", "stay", defArgs s_stay, defBody s_stay, defScope s_stay, [], []⟩
def d_stays_on : He.DefD := ⟨("stays_on", none), "stays_on", "stays_on", defArgs s_stays_on, defBody s_stays_on, defScope s_stays_on, [], []⟩
def d_stay_holds : He.DefD := ⟨("stay_holds", none), "stay_holds", "stay_holds", defArgs s_stay_holds, defBody s_stay_holds, defScope s_stay_holds, [], []⟩
def d_stay_move : He.DefD := ⟨("stay_move", none), "stay_move", "stay_move", defArgs s_stay_move, defBody s_stay_move, defScope s_stay_move, [], []⟩
def d_rising : He.DefD := ⟨("rising", none), "rising", "rising", defArgs s_rising, defBody s_rising, defScope s_rising, [], []⟩
def d_is_step : He.DefD := ⟨("is_step", none), "is_step", "is_step", defArgs s_is_step, defBody s_is_step, defScope s_is_step, [], []⟩
def d_is_kind : He.DefD := ⟨("is_kind", none), "is_kind", "is_kind", defArgs s_is_kind, defBody s_is_kind, defScope s_is_kind, [], []⟩
def d_law_cell_at : He.DefD := ⟨("_law_cell_at", none), "_law_cell_at", "_law_cell_at", defArgs s_law_cell_at, defBody s_law_cell_at, defScope s_law_cell_at, [], []⟩
def d_law_asked : He.DefD := ⟨("_law_asked", none), "_law_asked", "_law_asked", defArgs s_law_asked, defBody s_law_asked, defScope s_law_asked, [], []⟩
def d_law_kind : He.DefD := ⟨("_law_kind", none), "_law_kind", "_law_kind", defArgs s_law_kind, defBody s_law_kind, defScope s_law_kind, [], []⟩
def d_law : He.DefD := ⟨("law", none), "law", "law", defArgs s_law, defBody s_law, defScope s_law, [], []⟩
def d_Yard_ini : He.DefD := ⟨("Yard", some "__init__"), "__init__", "Yard.__init__", defArgs s_Yard_ini, defBody s_Yard_ini, defScope s_Yard_ini, [], []⟩
def d_Yard_on_board : He.DefD := ⟨("Yard", some "on_board"), "on_board", "Yard.on_board", defArgs s_Yard_on_board, defBody s_Yard_on_board, defScope s_Yard_on_board, [], []⟩
def d_Yard_is_free : He.DefD := ⟨("Yard", some "is_free"), "is_free", "Yard.is_free", defArgs s_Yard_is_free, defBody s_Yard_is_free, defScope s_Yard_is_free, [], []⟩
def d_Yard_cells : He.DefD := ⟨("Yard", some "cells"), "cells", "Yard.cells", defArgs s_Yard_cells, defBody s_Yard_cells, defScope s_Yard_cells, [], []⟩
def fn : List He.DefD := [d_is_piece, d_crowns, d_is_position, d_check_position, d_piece_at, d_turned_step, d_gone, d_may_end, d_ride, d_ways_of, d_all_ways, d_on_goal, d_verdict_of, d_moves_of, d_after_of, d_next_ones, d_reach_of, d_reach, d_rank_by, d_ranks_of, d_ranks, d_is_rank, d_check_paper, d_ranks_hold, d_win_move, d_check_side, d_stay, d_stays_on, d_stay_holds, d_stay_move, d_rising, d_is_step, d_is_kind, d_law_cell_at, d_law_asked, d_law_kind, d_law, d_Yard_ini, d_Yard_on_board, d_Yard_is_free, d_Yard_cells]
def fa : List He.Fa := [.glo "is_piece", .glo "crowns", .glo "is_position", .glo "check_position", .glo "piece_at", .glo "turned_step", .glo "gone", .glo "may_end", .glo "ride", .glo "ways_of", .glo "all_ways", .glo "on_goal", .glo "verdict_of", .glo "moves_of", .glo "after_of", .glo "next_ones", .glo "reach_of", .glo "reach", .glo "rank_by", .glo "ranks_of", .glo "ranks", .glo "is_rank", .glo "check_paper", .glo "ranks_hold", .glo "win_move", .glo "check_side", .glo "stay", .glo "stays_on", .glo "stay_holds", .glo "stay_move", .glo "rising", .glo "is_step", .glo "is_kind", .glo "_law_cell_at", .glo "_law_asked", .glo "_law_kind", .glo "law", .meth "Yard" "__init__", .meth "Yard" "on_board", .meth "Yard" "is_free", .meth "Yard" "cells", .free "ValueError", .free "abs", .free "all", .free "any", .free "isinstance", .free "len", .free "list", .free "max", .free "min", .free "range", .free "set", .free "sorted", .free "tuple", .str "LETTERS" "abcdefghijklmnopqrstuvwxyz", .int "MOST_KINDS" 6, .int "MOST_PIECES" 10, .int "MOST_REACH" 150, .int "MOST_SIDE" 5, .int "MOST_STEP" 4, .glo "Yard", .cls "Yard", .mkr "Yard", .noat "Yard" "goals", .noat "Yard" "height", .noat "Yard" "holes", .noat "Yard" "kinds", .noat "Yard" "stuck", .noat "Yard" "width"]
abbrev Rr : PySem.W.OpenRow := PySem.W.OpenLaw.row PySem.Challenge.rw_pieceyard_k45_refusals_of_papers
abbrev hkk : PySem.W.Hook := hookE 4 fa fn fun K => exsB K tab && slotsB K
def obb (s : PySem.W.SharedT) : AlE := obsE 4 fa fn (fun K => exsB K tab && slotsB K) (HandSHeadRun.getT s)
theorem obb_eq (s : PySem.W.SharedT) : obb s = hkk.obs s.abs := obsE_eq (HandSHeadRun.getT_eq s)
def loose : List Str := ([("__name__" : Str), ("YardError" : Str), ("BadYard" : Str), ("BadPosition" : Str), ("NoMove" : Str), ("BadSide" : Str), ("BadPaper" : Str), ("TooMany" : Str), ("NoWin" : Str), ("MOST_PIECES" : Str), ("is_piece" : Str), ("crowns" : Str), ("is_position" : Str), ("check_position" : Str), ("piece_at" : Str), ("turned_step" : Str), ("gone" : Str), ("may_end" : Str), ("ride" : Str), ("ways_of" : Str), ("all_ways" : Str), ("on_goal" : Str), ("verdict_of" : Str), ("moves_of" : Str), ("after_of" : Str), ("MOST_REACH" : Str), ("next_ones" : Str), ("reach_of" : Str), ("reach" : Str), ("rank_by" : Str), ("ranks_of" : Str), ("ranks" : Str), ("is_rank" : Str), ("check_paper" : Str), ("ranks_hold" : Str)] : List Str) ++ ([("win_move" : Str), ("check_side" : Str), ("stay" : Str), ("stays_on" : Str), ("stay_holds" : Str), ("stay_move" : Str), ("MOST_SIDE" : Str), ("MOST_KINDS" : Str), ("MOST_STEP" : Str), ("LETTERS" : Str), ("rising" : Str), ("is_step" : Str), ("is_kind" : Str), ("Yard" : Str), ("_law_cell_at" : Str), ("_law_asked" : Str), ("_law_kind" : Str)] : List Str)
theorem run (w : World) : HandSHeadRun.RunEq Rr (PySem.W.view Rr.prog [60]) hkk obb 8000 loose w := by
  intro os
  kernel_rfl
end DL
section
/-! sets of nested tuples of whole numbers -/
namespace DLS
open PySem PySem.Spec PyProof.Rows L2
mutual
def intK : NestedKey → Bool
  | .num _ => true
  | .tup ks => intKs ks
  | .none => false
  | .text _ => true
def intKs : List NestedKey → Bool
  | [] => true
  | k :: ks => intK k && intKs ks
end
section
variable {P : Program} {w : World}
/-- the question f of v is answered b, nothing changes -/
def Says (P : Program) (w : World) (s : Shared) (f : Sem Bool) (b : Bool) : Prop := ∀ (A : Around) (E : Value → Shared → Prop) (Q : Bool → Shared → Prop), Q b s → wpAny (model P w) A f Q E s
theorem says_pure {s : Shared} {b : Bool} : Says P w s (pure b) b := fun _ _ _ q => wpAny_pure q
/-- a loop whose every turn goes on -/
theorem loop_on {s : Shared} {A : Around} {E : Value → Shared → Prop} {α S : Type} {st : S} {body : α → S → Sem (ForInStep S)} {T : α → Prop} {Q : S → Shared → Prop}
    (turn : ∀ x, T x → ∀ (R : ForInStep S → Shared → Prop), R (.yield st) s → wpAny (model P w) A (body x st) R E s) :
    ∀ xs : List α, (∀ x ∈ xs, T x) → Q st s → wpAny (model P w) A (forIn xs st body) Q E s
  | [], _, q => by rw [List.forIn_nil]; exact wpAny_pure q
  | x :: xs, h, q => by
    rw [List.forIn_cons]
    refine wpAny_bind (turn x (h x List.mem_cons_self) _ ?_)
    exact loop_on turn xs (fun y hy => h y (List.mem_cons_of_mem _ hy)) q
theorem class_tup {s : Shared} {a : Addr} {o : Obj} {vs : Array Value} {m n : Nat} (ho : s.heap.get? a = some o) (hc : o.cls = .type "tuple") (hd : o.data = .seq vs m) (hq : ∀ v ∈ vs.toList, Says P w s (ofAClassStatement n v) false) : Says P w s (ofAClassStatement (n + 1) (.ref a)) false := fun A E Q q => by
  unfold ofAClassStatement
  refine wpAny_bind (wpAny_typeOf (T := "tuple") ⟨o, ho, hc⟩ ?_)
  dsimp only
  simp only [show (("tuple" : String) == "tuple") = true by decide, if_true, Bool.not_true, Bool.false_eq_true, if_false]
  try refine wpAny_bind (wpAny_pure ?_)
  try simp only [Bool.not_true, Bool.false_eq_true, if_false]
  show wpAny (model P w) A (seqItems? (.ref a) >>= _) Q E s
  refine wpAny_bind (wpAny_seqItems ho hd (wpAny_bind ?_))
  show wpAny (model P w) A (forIn vs _ _) _ E s
  rw [← Array.forIn_toList]
  refine loop_on (T := fun v => Says P w s (ofAClassStatement n v) false) ?_ vs.toList hq ?_
  · intro v hv R r
    refine wpAny_bind (hv _ _ _ ?_)
    simp only [Bool.false_eq_true, if_false]
    exact wpAny_pure r
  · exact wpAny_pure q
theorem hash_tup {s : Shared} {a : Addr} {o : Obj} {vs : Array Value} {m n : Nat} (ho : s.heap.get? a = some o) (hc : o.cls = .type "tuple") (hd : o.data = .seq vs m) (hq : ∀ v ∈ vs.toList, Says P w s (hashByValue n v) true) : Says P w s (hashByValue (n + 1) (.ref a)) true := fun A E Q q => by
  unfold hashByValue
  have ht : s.TypeIs (.ref a) "tuple" := ⟨o, ho, hc⟩
  refine wpAny_bind (wpAny_specialOf ht F.slot_tuple_hash.lookup ?_)
  show wpAny (model P w) A (seqItems? (.ref a) >>= _) Q E s
  refine wpAny_bind (wpAny_seqItems ho hd (wpAny_bind ?_))
  show wpAny (model P w) A (forIn vs _ _) _ E s
  rw [← Array.forIn_toList]
  refine loop_on (T := fun v => Says P w s (hashByValue n v) true) ?_ vs.toList hq ?_
  · intro v hv R r
    refine wpAny_bind (hv _ _ _ ?_)
    simp only [Bool.not_true, Bool.false_eq_true, if_false]
    exact wpAny_pure r
  · exact wpAny_pure q
mutual
theorem class_key : ∀ (k : NestedKey) (v : Value) (n : Nat) (s : Shared), NestedIs s.heap k v → k.depth ≤ n → Says P w s (ofAClassStatement n v) false
  | .none, _, n, s, x, _ => by cases x; cases n <;> exact says_pure
  | .num i, _, n, s, x, _ => by cases x <;> (cases n <;> exact says_pure)
  | .text y, _, n, s, x, _ => by cases x; cases n <;> exact says_pure
  | .tup ks, _, 0, s, x, hn => by simp [NestedKey.depth] at hn
  | .tup ks, _, n + 1, s, x, hn => by
    cases x with
    | tup ho hc hd hk => exact class_tup ho hc hd (class_keys ks _ n s hk (by simp only [NestedKey.depth] at hn; omega))
theorem class_keys : ∀ (ks : List NestedKey) (vs : List Value) (n : Nat) (s : Shared), NestedAll s.heap ks vs → NestedKey.depthAll ks ≤ n → ∀ v ∈ vs, Says P w s (ofAClassStatement n v) false
  | [], _, n, s, x, _, v, hv => by cases x; cases hv
  | k :: ks, _, n, s, x, hn, v, hv => by
    cases x with
    | cons x1 x2 =>
      simp only [NestedKey.depthAll] at hn
      rcases List.mem_cons.mp hv with rfl | hv
      · exact class_key k _ n s x1 (by omega)
      · exact class_keys ks _ n s x2 (by omega) v hv
end
/-- a loop one of whose turns ends it -/
theorem loop_end {s : Shared} {A : Around} {E : Value → Shared → Prop} {α S : Type} {st st' : S} {body : α → S → Sem (ForInStep S)} {T F : α → Prop} {Q : S → Shared → Prop}
    (turn : ∀ x, T x → ∀ (R : ForInStep S → Shared → Prop), R (.yield st) s → wpAny (model P w) A (body x st) R E s)
    (last : ∀ x, F x → ∀ (R : ForInStep S → Shared → Prop), R (.done st') s → wpAny (model P w) A (body x st) R E s) :
    ∀ xs : List α, (∀ x ∈ xs, T x ∨ F x) → (∃ x ∈ xs, ¬ T x) → Q st' s → wpAny (model P w) A (forIn xs st body) Q E s
  | [], _, ⟨_, h, _⟩, _ => absurd h List.not_mem_nil
  | x :: xs, h, ne, q => by
    rw [List.forIn_cons]
    by_cases c : T x
    · refine wpAny_bind (turn x c _ ?_)
      refine loop_end turn last xs (fun y hy => h y (List.mem_cons_of_mem _ hy)) ?_ q
      obtain ⟨y, hy, hn⟩ := ne
      rcases List.mem_cons.mp hy with rfl | hy
      · exact absurd c hn
      · exact ⟨y, hy, hn⟩
    · refine wpAny_bind (last x ((h x List.mem_cons_self).resolve_left c) _ ?_)
      exact wpAny_pure q
theorem hash_no {s : Shared} {a : Addr} {o : Obj} {vs : Array Value} {m n : Nat} (ho : s.heap.get? a = some o) (hc : o.cls = .type "tuple") (hd : o.data = .seq vs m) (hq : ∀ v ∈ vs.toList, Says P w s (hashByValue n v) true ∨ Says P w s (hashByValue n v) false) (ne : ∃ v ∈ vs.toList, ¬ Says P w s (hashByValue n v) true) : Says P w s (hashByValue (n + 1) (.ref a)) false := fun A E Q q => by
  unfold hashByValue
  have ht : s.TypeIs (.ref a) "tuple" := ⟨o, ho, hc⟩
  refine wpAny_bind (wpAny_specialOf ht F.slot_tuple_hash.lookup ?_)
  show wpAny (model P w) A (seqItems? (.ref a) >>= _) Q E s
  refine wpAny_bind (wpAny_seqItems ho hd (wpAny_bind ?_))
  show wpAny (model P w) A (forIn vs _ _) _ E s
  rw [← Array.forIn_toList]
  refine loop_end (st' := (some false, ())) (T := fun v => Says P w s (hashByValue n v) true) (F := fun v => Says P w s (hashByValue n v) false) ?_ ?_ vs.toList hq ne ?_
  · intro v hv R r
    refine wpAny_bind (hv _ _ _ ?_)
    simp only [Bool.not_true, Bool.false_eq_true, if_false]
    exact wpAny_pure r
  · intro v hv R r
    refine wpAny_bind (hv _ _ _ ?_)
    simp only [Bool.not_false, if_true]
    exact wpAny_pure r
  · exact wpAny_pure q
theorem hash_any {s : Shared} {a : Addr} {o : Obj} {vs : Array Value} {m n : Nat} (ho : s.heap.get? a = some o) (hc : o.cls = .type "tuple") (hd : o.data = .seq vs m) (hq : ∀ v ∈ vs.toList, ∃ b, Says P w s (hashByValue n v) b) : ∃ b, Says P w s (hashByValue (n + 1) (.ref a)) b := by
  by_cases c : ∀ v ∈ vs.toList, Says P w s (hashByValue n v) true
  · exact ⟨true, hash_tup ho hc hd c⟩
  · refine ⟨false, hash_no ho hc hd (fun v hv => ?_) ?_⟩
    · obtain ⟨b, h⟩ := hq v hv
      cases b
      · exact .inr h
      · exact .inl h
    · simpa using c
mutual
theorem hash_key : ∀ (k : NestedKey) (v : Value) (n : Nat) (s : Shared), NestedIs s.heap k v → k.depth ≤ n → ∃ b, Says P w s (hashByValue n v) b
  | .none, _, n, s, x, _ => by cases x; exact ⟨true, by cases n <;> exact says_pure⟩
  | .num i, _, n, s, x, _ => by cases x <;> exact ⟨true, by cases n <;> exact says_pure⟩
  | .text y, _, n, s, x, _ => by cases x; exact ⟨false, by cases n <;> exact says_pure⟩
  | .tup ks, _, 0, s, x, hn => by simp [NestedKey.depth] at hn
  | .tup ks, _, n + 1, s, x, hn => by
    cases x with
    | tup ho hc hd hk => exact hash_any ho hc hd (hash_keys ks _ n s hk (by simp only [NestedKey.depth] at hn; omega))
theorem hash_keys : ∀ (ks : List NestedKey) (vs : List Value) (n : Nat) (s : Shared), NestedAll s.heap ks vs → NestedKey.depthAll ks ≤ n → ∀ v ∈ vs, ∃ b, Says P w s (hashByValue n v) b
  | [], _, n, s, x, _, v, hv => by cases x; cases hv
  | k :: ks, _, n, s, x, hn, v, hv => by
    cases x with
    | cons x1 x2 =>
      simp only [NestedKey.depthAll] at hn
      rcases List.mem_cons.mp hv with rfl | hv
      · exact hash_key k _ n s x1 (by omega)
      · exact hash_keys ks _ n s x2 (by omega) v hv
end
/-- the tuple at a is the key k -/
structure El (h : Heap) (k : NestedKey) (a : Addr) : Prop where
  is : NestedIs h k (.ref a)
  dp : k.depth ≤ 8
  pu : intK k = true
theorem El.keep {h h' : Heap} {k : NestedKey} {a : Addr} (e : El h k a) (kp : ∀ b o vs n, h.get? b = some o → o.data = .seq vs n → h'.get? b = some o) : El h' k a := ⟨e.is.at kp, e.dp, e.pu⟩
theorem El.all {h h' : Heap} {k : NestedKey} {a : Addr} (e : El h k a) (kp : ∀ b o, h.get? b = some o → h'.get? b = some o) : El h' k a := e.keep fun b o _ _ q _ => kp b o q
theorem El.put {h h' : Heap} {k : NestedKey} {a b : Addr} {o : Obj} {es : Array (Int × Value)} {ep : Nat} {t : SetTable} (e : El h k a) (ho : h.get? b = some o) (hd : o.data = .set es ep t) (sb : Heap.SameBut b h h') : El h' k a := e.keep fun c u vs n q qd => by
  have ne : c ≠ b := by
    rintro rfl
    rw [ho] at q; cases q
    rw [hd] at qd; exact nomatch qd
  exact (sb.2 c ne).trans q
theorem El.cls {s : Shared} {k : NestedKey} {a : Addr} (e : El s.heap k a) : Says P w s (ofAClassStatement 8 (.ref a)) false := class_key k _ 8 s e.is e.dp
theorem El.hsh {s : Shared} {k : NestedKey} {a : Addr} (e : El s.heap k a) : ∃ b, Says P w s (hashByValue 8 (.ref a)) b := hash_key k _ 8 s e.is e.dp
theorem El.qui {s : Shared} {k : NestedKey} {a : Addr} (e : El s.heap k a) : Says P w s (eqIsQuiet 8 (.ref a)) true := fun A E Q q => quiet_key k _ 8 s e.is e.dp A E Q q
/-- a search among such tuples shows nothing -/
theorem El.seen {s : Shared} {k : NestedKey} {a : Addr} (e : El s.heap k a) {ys : List Value} (hy : ∀ y ∈ ys, ∃ k' c, y = Value.ref c ∧ El s.heap k' c) : Says P w s (searchCouldBeSeen (.ref a) ys) false := fun A E Q q => by
  unfold searchCouldBeSeen
  refine wpAny_bind (loop_on (T := fun y => ∃ k' c, y = Value.ref c ∧ El s.heap k' c) ?_ ys hy ?_)
  · intro v hv R r
    obtain ⟨k', c, rfl, e'⟩ := hv
    dsimp only
    by_cases c1 : (a == c || (carriedByValue (.ref a) && carriedByValue (.ref c))) = true
    · exact wp_if_pos c1 (wpAny_pure r)
    · refine wp_if_neg c1 (wpAny_bind (e.qui _ _ _ ?_))
      simp only [Bool.not_true, Bool.false_eq_true, if_false]
      refine wpAny_bind (e'.qui _ _ _ ?_)
      simp only [Bool.not_true, Bool.false_eq_true, if_false]
      refine wpAny_bind (e.cls _ _ _ ?_)
      simp only [Bool.false_eq_true, if_false]
      refine wpAny_bind (e'.cls _ _ _ ?_)
      simp only [Bool.false_eq_true, if_false]
      exact wpAny_pure r
  · exact wpAny_pure q
end
end DLS
end
section
namespace DLS
open PySem PySem.Spec PyProof.Rows L2
abbrev Ent := Addr × NestedKey
abbrev hk (w : World) (k : NestedKey) : Int := k.hash w
def rws (w : World) (L : List Ent) : List (Int × Value) := L.map fun e => (hk w e.2, Value.ref e.1)
/-- where the way of the hash stands -/
abbrev pb (t : SetTable) (z : Int) (n : Nat) : SetTable.Probe := nth t.mask (runAt t.mask (SetTable.bits z % (t.mask + 1)) (SetTable.bits z)) n
/-- the set at a holds the entries L, in the table's order -/
structure Tb (w : World) (h : Heap) (a : Addr) (L : List Ent) (es : Array (Int × Value)) (ep : Nat) (t : SetTable) : Prop where
  at_ : ∃ o, h.get? a = some o ∧ o.ExactSet ∧ o.data = .set es ep t
  rw_ : es.toList = rws w L
  tab : TabOk t (L.map fun e => hk w e.2)
  dif : (L.map (·.2)).Nodup
  els : ∀ e ∈ L, El h e.2 e.1
  led : w.params.followText "set-order" = true ∨ t.led = true
  spc : L.length * 5 < t.mask * 3
  few : L.length < 77
section
variable {P : Program} {w : World} {A : Around} {E : Value → Shared → Prop} {s : Shared} {a : Addr} {L : List Ent} {es : Array (Int × Value)} {ep : Nat} {t : SetTable}
theorem rws_len (L : List Ent) : (rws w L).length = L.length := by unfold rws; rw [List.length_map]
theorem size_of (h : es.toList = rws w L) : es.size = L.length := by rw [← rws_len (w := w) L, ← h, Array.length_toList]
theorem fits_of {hs : List Int} (T : TabOk t hs) (hl : es.size = hs.length) (hm : hs.length ≤ t.mask) : t.fits es.size = true := by
  have z := T.sz
  unfold SetTable.fits SetTable.fill
  rw [T.dm, Bool.and_eq_true, beq_iff_eq, decide_eq_true_eq]
  constructor
  · rw [z, hl]
  · show t.place.size + 0 ≤ t.mask
    omega
theorem Tb.sz (B : Tb w s.heap a L es ep t) : es.size = L.length := size_of B.rw_
theorem Tb.fits (B : Tb w s.heap a L es ep t) : t.fits es.size = true := fits_of B.tab (by rw [List.length_map]; exact B.sz) (by rw [List.length_map]; have := B.spc; omega)
theorem Tb.ent (B : Tb w s.heap a L es ep t) {i : Nat} {e : Ent} (h : L[i]? = some e) : es[i]? = some (hk w e.2, Value.ref e.1) := by
  have z : es.toList[i]? = some (hk w e.2, Value.ref e.1) := by
    rw [B.rw_]; unfold rws; rw [List.getElem?_map, h]; rfl
  rw [← Array.getElem?_toList]; exact z
theorem pb_dummy (t : SetTable) (z : Int) (n : Nat) : (pb t z n).dummy = none := by
  have go : ∀ (n : Nat) (p : SetTable.Probe), p.dummy = none → (nth t.mask p n).dummy = none := by
    intro n
    induction n with
    | zero => exact fun p q => q
    | succ n ih =>
      intro p q
      apply ih (adv t.mask p)
      unfold adv
      split <;> exact q
  exact go n _ rfl
theorem pb_add (t : SetTable) (z : Int) (n q : Nat) : nth t.mask (pb t z n) q = pb t z (n + q) := (nth_add t.mask n _ q).symm
theorem pb_j (t : SetTable) (z : Int) (n q : Nat) : (nth t.mask (pb t z n) q).j = way t.mask z (n + q) := congrArg SetTable.Probe.j (pb_add t z n q)

/-- the search for x from the c-th place of its way -/
theorem look_from (B : Tb w s.heap a L es ep t) {x : Addr} {k : NestedKey} (el : El s.heap k x) (hu : A.units + 8 < cLine) {N : Nat} (big : N < 10 * SetTable.turns t.mask) (fr : way t.mask (hk w k) N ∉ t.place.toList)
    (oc : ∀ c, c < N → way t.mask (hk w k) c ∈ t.place.toList) {Q : SetFound → Shared → Prop} (yes : k ∈ L.map (·.2) → Q (.there none) s) (no : k ∉ L.map (·.2) → Q (.free (way t.mask (hk w k) N) false) s) :
    ∀ (fuel c : Nat) (from_ : Option SetTable.Probe), from_.getD (t.probeStart (hk w k)) = pb t (hk w k) c → c ≤ N → N - c < fuel →
      (∀ (i : Nat) e, L[i]? = some e → e.2 = k → ∃ c', c ≤ c' ∧ c' < N ∧ t.place.toList[i]? = some (way t.mask (hk w k) c')) → wpAny (model P w) A (setSearchFrom a (.ref x) (hk w k) true fuel from_) Q E s := by
  intro fuel
  induction fuel with
  | zero => intro c _ _ _ z; exact absurd z (Nat.not_lt_zero _)
  | succ fuel ih =>
    intro c from_ e0 hc hf mt
    obtain ⟨o, ho, _, hd⟩ := B.at_
    have gw : ¬ t.gaveWay = true := by
      unfold SetTable.gaveWay
      rw [mask_odd B.tab.mok]
      decide
    rw [setSearchFrom_succ]
    refine wpAny_bind (wpAny_setState_of ho hd B.fits ?_)
    dsimp only
    refine wp_if_neg gw ?_
    try refine wpAny_bind (wpAny_pure ?_)
    have hashOf : ∀ (i : Nat) e, L[i]? = some e → (es[i]?.map (·.1)).getD 0 = hk w e.2 := fun i e q => by rw [B.ent q]; rfl
    have met := go_spec t B.tab.ris B.tab.dm (fun i => (es[i]?.map (·.1)).getD 0) (hk w k) (10 * SetTable.turns t.mask) (N - c) (pb t (hk w k) c) (pb_dummy t _ c) (by omega) (fun q hq => by rw [pb_j]; exact oc (c + q) (by omega))
      (by rw [pb_j, show c + (N - c) = N by omega]; exact fr)
    rcases met with ⟨q, i, hq, hi, hh, hno, hpr⟩ | ⟨hno, hpr⟩
    · rw [pb_j] at hi
      have pr : t.probe (fun i => (es[i]?.map (·.1)).getD 0) (hk w k) (from_.getD (t.probeStart (hk w k))) = some (.candidate (way t.mask (hk w k) (c + q)) i (pb t (hk w k) (c + (q + 1)))) := by rw [e0, ← pb_j, ← pb_add]; exact hpr
      rw [pr]
      dsimp only
      have il : i < L.length := by
        have z1 : i < t.place.toList.length := (List.getElem?_eq_some_iff.mp hi).1
        have z2 := B.tab.sz
        rw [List.length_map] at z2
        rw [Array.length_toList] at z1
        omega
      obtain ⟨e, le⟩ : ∃ e, L[i]? = some e := ⟨_, List.getElem?_eq_getElem il⟩
      have me : e ∈ L := List.mem_of_getElem? le
      have live : t.slot (way t.mask (hk w k) (c + q)) = .live i := slot_live B.tab.ris hi
      have go : wpAny (model P w) A (searchRest a (.ref x) (hk w k) true fuel es t (way t.mask (hk w k) (c + q)) i (pb t (hk w k) (c + (q + 1)))) Q E s := by
        unfold searchRest
        rw [B.ent le]
        dsimp only
        have ea := eqAt_key e.2 k A s (.ref e.1) (.ref x) (B.els e me).is el.is (by have := el.dp; omega) P w
        refine wpAny_bind (wpAny_holding (ea _ _ ?_))
        refine wpAny_bind (wpAny_setState_of ho hd B.fits ?_)
        dsimp only
        by_cases same : e.2 = k
        · have b1 : NestedKey.beq e.2 k = true := by rw [same]; exact NestedKey.beq_self k
          refine wp_if_pos (by simp [b1]) (wpAny_pure (yes ?_))
          exact List.mem_map.mpr ⟨e, me, same⟩
        · have b0 : NestedKey.beq e.2 k = false := by
            cases z : NestedKey.beq e.2 k with
            | false => rfl
            | true => exact absurd (NestedKey.eq_of_beq _ _ z) same
          refine wp_if_neg (by simp [b0]) ?_
          try refine wpAny_bind (wpAny_pure ?_)
          rw [sameMem]
          dsimp only
          simp only [if_true, live, B.ent le]
          refine wpAny_bind (wpAny_isSame_ref_self (wpAny_bind (wpAny_pure ?_)))
          simp only [if_true]
          refine wp_if_neg (by simp [b0]) ?_
          refine ih (c + (q + 1)) (some (pb t (hk w k) (c + (q + 1)))) rfl (by omega) (by omega) fun i2 e2 l2 k2 => ?_
          obtain ⟨c', g1, g2, g3⟩ := mt i2 e2 l2 k2
          refine ⟨c', ?_, g2, g3⟩
          rcases Nat.lt_trichotomy c' (c + q) with z | z | z
          · exfalso
            refine hno (c' - c) i2 (by omega) ?_ ?_
            · rw [pb_j, show c + (c' - c) = c' by omega]; exact g3
            · exact (hashOf i2 e2 l2).trans (congrArg (hk w) k2)
          · exfalso
            rw [z] at g3
            have l3 := slot_live B.tab.ris g3
            rw [live] at l3
            injection l3 with l3
            rw [← l3, le] at l2
            cases l2
            exact same k2
          · omega
      by_cases ld : t.led = true
      · refine wp_if_neg (by simp [ld]) ?_
        try refine wpAny_bind (wpAny_pure ?_)
        exact go
      · refine wp_if_pos (by simp [ld]) (wpAny_bind (el.seen (P := P) (w := w) (fun y hy => ?_) _ _ _ ?_))
        · obtain ⟨r, hr, er⟩ := List.mem_map.mp hy
          have hr1 : r ∈ es ∧ r.1 = hk w k := by simpa using hr
          have hr2 : r ∈ rws w L := by rw [← B.rw_]; simpa using hr1.1
          obtain ⟨e3, h3, r3⟩ := List.mem_map.mp hr2
          exact ⟨e3.2, e3.1, by rw [← er, ← r3], B.els e3 h3⟩
        · refine wp_if_neg (by decide) ?_
          try refine wpAny_bind (wpAny_pure ?_)
          exact go
    · have pr : t.probe (fun i => (es[i]?.map (·.1)).getD 0) (hk w k) (from_.getD (t.probeStart (hk w k))) = some (.empty (way t.mask (hk w k) N) none) := by
        have z : way t.mask (hk w k) N = (nth t.mask (pb t (hk w k) c) (N - c)).j := by rw [pb_j, show c + (N - c) = N by omega]
        rw [e0, z]; exact hpr
      rw [pr]
      dsimp only
      refine wpAny_pure (no fun hm => ?_)
      obtain ⟨e, he, ke⟩ := List.mem_map.mp hm
      obtain ⟨i, hi, ei⟩ := List.getElem_of_mem he
      have li : L[i]? = some e := by rw [List.getElem?_eq_getElem hi, ei]
      obtain ⟨c', g1, g2, g3⟩ := mt i e li ke
      refine hno (c' - c) i (by omega) ?_ ?_
      · rw [pb_j, show c + (c' - c) = c' by omega]; exact g3
      · exact (hashOf i e li).trans (congrArg (hk w) ke)
/-- .. as adding asks -/
theorem look_at (B : Tb w s.heap a L es ep t) {x : Addr} {k : NestedKey} (el : El s.heap k x) (hu : A.units + 8 < cLine) {Q : SetFound → Shared → Prop} (yes : k ∈ L.map (·.2) → Q (.there none) s)
    (no : ∀ N, k ∉ L.map (·.2) → way t.mask (hk w k) N ∉ t.place.toList → (∀ c, c < N → way t.mask (hk w k) c ∈ t.place.toList) → Q (.free (way t.mask (hk w k) N) false) s) : wpAny (model P w) A (setSearch a (.ref x) (hk w k) true) Q E s := by
  have sp := B.spc
  obtain ⟨N, big, fr, oc⟩ := B.tab.first (by rw [List.length_map]; omega) (hk w k)
  have lim : 10 * SetTable.turns t.mask ≤ 1420 := by
    unfold SetTable.turns
    rcases B.tab.mok with e | e | e <;> omega
  unfold setSearch
  refine look_from B el hu big fr oc yes (fun z => no N z fr oc) 100000 0 none rfl (Nat.zero_le _) (by omega) fun i e le ke => ?_
  have hi : (L.map fun e => hk w e.2)[i]? = some (hk w k) := by rw [List.getElem?_map, le, ← ke]; rfl
  have il : i < t.place.toList.length := by
    have z1 : i < L.length := (List.getElem?_eq_some_iff.mp le).1
    have z2 := B.tab.sz
    rw [List.length_map] at z2
    rw [Array.length_toList]; omega
  have hj := List.getElem?_eq_getElem il
  obtain ⟨c, hc, ec⟩ := B.tab.before fr hi hj
  exact ⟨c, Nat.zero_le _, hc, by rw [hj, ec]⟩
end
end DLS
end
section
namespace DLS
open PySem PySem.Spec PyProof.Rows L2
section
variable {P : Program} {w : World} {A : Around} {E : Value → Shared → Prop} {s : Shared} {a : Addr} {L : List Ent} {es : Array (Int × Value)} {ep : Nat} {t : SetTable}
/-- the rows in another order -/
theorem rws_order (L : List Ent) (es : Array (Int × Value)) (ord : Array Nat) (hr : es.toList = rws w L) (pm : ord.toList.Perm (List.range L.length)) :
    ∃ M : List Ent, (ord.filterMap (es[·]?)).toList = rws w M ∧ M.Perm L ∧ (M.map fun e => hk w e.2) = ord.toList.map fun i => (es.map (·.1)).getD i 0 := by
  have at_ : ∀ (i : Nat) (e : Ent), L[i]? = some e → es[i]? = some (hk w e.2, Value.ref e.1) := fun i e q => by
    rw [← Array.getElem?_toList, hr]; unfold rws; rw [List.getElem?_map, q]; rfl
  have step : ∀ l : List Nat, (∀ i ∈ l, i < L.length) → (l.filterMap fun i => es[i]?) = rws w (l.filterMap fun i => L[i]?) ∧ ((l.filterMap fun i => L[i]?).map fun e => hk w e.2) = l.map fun i => (es.map (·.1)).getD i 0 := by
    intro l
    induction l with
    | nil => exact fun _ => ⟨rfl, rfl⟩
    | cons i l ih =>
      intro h
      obtain ⟨e, le⟩ : ∃ e, L[i]? = some e := ⟨_, List.getElem?_eq_getElem (h i List.mem_cons_self)⟩
      obtain ⟨i1, i2⟩ := ih fun j hj => h j (List.mem_cons_of_mem _ hj)
      have q := at_ i e le
      have g : (es.map (·.1)).getD i 0 = hk w e.2 := by
        have : (es.map (·.1))[i]? = some (hk w e.2) := by rw [Array.getElem?_map, q]; rfl
        rw [Array.getD_eq_getD_getElem?, this]; rfl
      constructor
      · rw [List.filterMap_cons_some q, List.filterMap_cons_some le, i1]; rfl
      · rw [List.filterMap_cons_some le, List.map_cons, List.map_cons, i2, g]
  obtain ⟨h1, h2⟩ := step ord.toList fun i hi => List.mem_range.mp (pm.mem_iff.mp hi)
  refine ⟨_, (by rw [← h1]; first | (rw [Array.toList_filterMap]) | simp), ?_, h2⟩
  have whole : (List.range L.length).filterMap (fun i => L[i]?) = L := by
    have part : ∀ n, n ≤ L.length → (List.range n).filterMap (fun i => L[i]?) = L.take n := by
      intro n
      induction n with
      | zero => exact fun _ => rfl
      | succ n ih =>
        intro hn
        have lt : n < L.length := hn
        rw [List.range_succ, List.filterMap_append, ih (by omega), List.filterMap_cons_some (List.getElem?_eq_getElem lt), List.take_succ, List.getElem?_eq_getElem lt]; rfl
    rw [part _ (Nat.le_refl _), List.take_length]
  have p2 := pm.filterMap fun i => L[i]?
  rw [whole] at p2
  exact p2
/-- a larger table -/
theorem widen {o : Obj} (ho : s.heap.get? a = some o) (hx : o.ExactSet) (hd : o.data = .set es ep t) (hr : es.toList = rws w L) (T : TabOk t (L.map fun e => hk w e.2)) (hm : L.length ≤ t.mask) (dif : (L.map (·.2)).Nodup) (els : ∀ e ∈ L, El s.heap e.2 e.1)
    (ld : w.params.followText "set-order" = true ∨ t.led = true) (few : L.length < 77) {want M : Nat} (hw : SetTable.sizeAbove want - 1 = M) (mo : MaskOk M) (hw2 : SetTable.sizeAbove want ≤ 128) (sp : L.length * 5 < M * 3) {Q : Unit → Shared → Prop}
    (q : ∀ h' L' es' ep' t', Heap.SameBut a s.heap h' → Tb w h' a L' es' ep' t' → L'.Perm L → Q () { s with heap := h' }) : wpAny (model P w) A (setRelay a want) Q E s := by
  have len := size_of hr
  have fit : t.fits es.size = true := fits_of T (by rw [List.length_map]; exact len) (by rw [List.length_map]; exact hm)
  obtain ⟨t', ord, eq, pm, T', em, el, epl, ed⟩ := relaid_ok t (hs := es.map (·.1)) (wanted := want) hw mo (by rw [Array.size_map, len]; omega)
  rw [Array.size_map, len] at pm
  obtain ⟨L2, r1, r2, r3⟩ := rws_order L es ord hr pm
  rw [← r3] at T'
  have z2 : (ord.filterMap (es[·]?)).size = es.size := by rw [size_of r1, r2.length_eq, len]
  rw [setRelay_eq]
  refine wpAny_bind (wpAny_setState_of ho hd fit ?_)
  dsimp only
  refine wp_if_neg (by rw [sizeLine_eq]; omega) ?_
  try refine wpAny_bind (wpAny_pure ?_)
  rw [eq]
  dsimp only
  refine wpAny_bind (wp_if_neg (by rw [z2]; simp) ?_)
  try refine wpAny_bind (wpAny_pure ?_)
  refine wpAny_pure ?_
  dsimp only
  refine wpAny_storeSet_of ho hd ?_ (by rw [z2, len, sizeLine_eq]; omega)
  have sb : Heap.SameBut a s.heap (s.heap.update a (Obj.putSet (ord.filterMap (es[·]?)) t')) := Heap.SameBut.update ..
  have ld' : w.params.followText "set-order" = true ∨ t'.led = true := by rw [el]; exact ld
  exact q _ L2 _ (ep + 1) t' sb ⟨⟨_, store_at ho hd, ⟨hx.1, hx.2.1, hx.2.2⟩, rfl⟩, r1, T', (r2.map (·.2)).nodup_iff.mpr dif, fun e he => (els e (r2.mem_iff.mp he)).put ho hd sb, ld', by rw [r2.length_eq, em]; exact sp, by rw [r2.length_eq]; exact few⟩ r2
/-- x is added -/
theorem add_el (B : Tb w s.heap a L es ep t) {x : Addr} {k : NestedKey} (el : El s.heap k x) (hu : A.units + 8 < cLine) (room : k ∉ L.map (·.2) → L.length + 1 < 77) {Q : Bool → Shared → Prop}
    (q : ∀ b h' L' es' ep' t', Heap.SameBut a s.heap h' → Tb w h' a L' es' ep' t' → (k ∈ L.map (·.2) → L' = L) → (k ∉ L.map (·.2) → L'.Perm ((x, k) :: L)) → Q b { s with heap := h' }) : wpAny (model P w) A (setAddHashed a (.ref x) (hk w k)) Q E s := by
  obtain ⟨o, ho, hx, hd⟩ := B.at_
  have len := B.sz
  have sp := B.spc
  unfold setAddHashed
  refine wpAny_holding ?_
  rw [show (100000 : Nat) = 99999 + 1 from rfl, setAddHashedIn_succ]
  refine wpAny_bind (wpAny_setState_of ho hd B.fits ?_)
  dsimp only
  refine wp_if_neg (by simp [byScan, Value.scannable]) ?_
  try refine wpAny_bind (wpAny_pure ?_)
  refine wpAny_bind (look_at B el hu (fun hm => ?_) fun N hm fr oc => ?_)
  · dsimp only
    exact wpAny_pure (q false s.heap L es ep t (Heap.SameBut.refl a s.heap) B (fun _ => rfl) fun z => absurd hm z)
  dsimp only
  have few1 := room hm
  refine wpAny_bind (wpAny_setState_of ho hd B.fits ?_)
  dsimp only
  obtain ⟨g1, g2, g3, g4, g5, g6, g7, g8, g9⟩ := B.tab.put fr oc
  generalize hpt : t.put (way t.mask (hk w k) N) = pt at g1 g3 g4 g5 g6 g7 g8 g9 ⊢
  obtain ⟨t1, j⟩ := pt
  dsimp only at g1 g3 g4 g5 g6 g7 g8 g9 ⊢
  subst g1
  obtain ⟨b, hb⟩ := el.hsh (P := P) (w := w)
  have rest : ∀ t2 : SetTable, t2.place = t1.place → t2.dummies = t1.dummies → t2.mask = t1.mask → t2.led = t1.led → t2.fill = t1.fill → wpAny (model P w) A (storeSet a (SetTable.insertAt es (SetTable.below t.place (way t.mask (hk w k) N)) (hk w k, Value.ref x)) t2 >>= fun _ => if (!false && t2.tooFull) = true then (setRelay a (SetTable.grown (es.size + 1)) >>= fun _ => pure true) else pure true) Q E s := by
    intro t2 s1 s2 s3 s4 s5
    have g3 : TabOk t2 _ := ⟨by rw [s1]; exact g3.ris, by rw [s2]; exact g3.dm, by rw [s1]; exact g3.sz, by rw [s3]; exact g3.mok, by rw [s1, s3]; exact g3.bd, by rw [s1, s3]; exact g3.reach⟩
    have g4 := s3.trans g4
    have g5 := s4.trans g5
    have g9 := s5.trans g9
    clear s1 s2 s3 s4 s5 hb
    clear g6 g7 g8
    revert t2
    intro t1 g3 g4 g5 g9
    generalize hj : SetTable.below t.place (way t.mask (hk w k) N) = j at g2 g3 ⊢
    have pm := put_perm L j (x, k)
    have rw1 : (SetTable.insertAt es j (hk w k, Value.ref x)).toList = rws w (L.take j ++ (x, k) :: L.drop j) := by
      rw [SetTable.toList_insertAt, B.rw_]
      unfold rws
      rw [List.map_append, List.map_cons, List.map_take, List.map_drop]
    have tb1 : (L.take j ++ (x, k) :: L.drop j).map (fun e => hk w e.2) = (L.map fun e => hk w e.2).take j ++ hk w k :: (L.map fun e => hk w e.2).drop j := by rw [List.map_append, List.map_cons, List.map_take, List.map_drop]
    rw [← tb1] at g3
    have dif1 : ((L.take j ++ (x, k) :: L.drop j).map (·.2)).Nodup := by
      refine (pm.map (·.2)).nodup_iff.mpr ?_
      rw [List.map_cons]
      exact List.nodup_cons.mpr ⟨hm, B.dif⟩
    generalize SetTable.insertAt es j (hk w k, Value.ref x) = es1 at rw1 ⊢
    generalize L.take j ++ (x, k) :: L.drop j = L1 at pm g3 dif1 rw1
    have len1 : L1.length = L.length + 1 := pm.length_eq
    have sz1 : es1.size = L.length + 1 := by rw [size_of rw1, len1]
    refine wpAny_bind (wpAny_storeSet_of ho hd ?_ (by rw [sz1, sizeLine_eq]; omega))
    have sb : Heap.SameBut a s.heap (s.heap.update a (Obj.putSet es1 t1)) := Heap.SameBut.update ..
    have ho1 := store_at (es' := es1) (t' := t1) ho hd
    generalize s.heap.update a (Obj.putSet es1 t1) = h1 at sb ho1 ⊢
    have els1 : ∀ e ∈ L1, El h1 e.2 e.1 := fun e he => by
      rcases List.mem_cons.mp (pm.mem_iff.mp he) with z | z
      · rw [z]; exact el.put ho hd sb
      · exact (B.els e z).put ho hd sb
    have ld1 : w.params.followText "set-order" = true ∨ t1.led = true := by rw [g5]; exact B.led
    by_cases full : t1.tooFull = true
    · first
        | (refine wpAny_bind ?_; refine wp_if_pos (by simp [full]) ?_)
        | (refine wp_if_pos (by simp [full]) ?_; refine wpAny_bind ?_)
      have fl : (L.length + 1) * 5 ≥ t1.mask * 3 := by
        have z := full
        unfold SetTable.tooFull at z
        rw [decide_eq_true_eq, g9, List.length_map] at z
        exact z
      rw [len]
      have two : (t.mask = 7 ∧ L.length = 4) ∨ (t.mask = 31 ∧ L.length = 18) := by
        rcases B.tab.mok with e | e | e
        · rw [g4, e] at fl; rw [e] at sp; exact .inl ⟨e, by omega⟩
        · rw [g4, e] at fl; rw [e] at sp; exact .inr ⟨e, by omega⟩
        · rw [g4, e] at fl; omega
      have mk : L1.length ≤ t1.mask := by rw [g4]; rcases two with ⟨e, e2⟩ | ⟨e, e2⟩ <;> omega
      have run : ∀ M, SetTable.sizeAbove (SetTable.grown (L.length + 1)) - 1 = M → MaskOk M → SetTable.sizeAbove (SetTable.grown (L.length + 1)) ≤ 128 → (L.length + 1) * 5 < M * 3 →
          wpAny (model P w) A (setRelay a (SetTable.grown (L.length + 1))) (fun _ s' => wpAny (model P w) A (pure true) Q E s') E { s with heap := h1 } := fun M m1 m2 m3 m4 =>
        widen (s := { s with heap := h1 }) ho1 ⟨hx.1, hx.2.1, hx.2.2⟩ rfl rw1 g3 mk dif1 els1 ld1 (by rw [len1]; exact few1) m1 m2 m3 (by rw [len1]; exact m4) fun h2 L2 es2 ep2 t2 sb2 B2 pm2 =>
          wpAny_pure (q true h2 L2 es2 ep2 t2 (sb.trans sb2) B2 (fun z => absurd z hm) fun _ => pm2.trans pm)
      rcases two with ⟨_, e2⟩ | ⟨_, e2⟩
      · exact run 31 (by rw [e2, size_20]) (.inr (.inl rfl)) (by rw [e2, size_20]; decide) (by omega)
      · exact run 127 (by rw [e2, size_76]) (.inr (.inr rfl)) (by rw [e2, size_76]; decide) (by omega)
    · first
        | refine wp_if_neg (by simp [full]) ?_
        | (refine wpAny_bind ?_; refine wp_if_neg (by simp [full]) ?_; refine wpAny_pure ?_)
      have nf : L1.length * 5 < t1.mask * 3 := by
        have z := full
        unfold SetTable.tooFull at z
        rw [decide_eq_true_eq, g9, List.length_map] at z
        rw [len1]
        omega
      exact wpAny_pure (q true h1 L1 es1 (ep + 1) t1 sb ⟨⟨_, ho1, ⟨hx.1, hx.2.1, hx.2.2⟩, rfl⟩, rw1, g3, dif1, els1, ld1, nf, by rw [len1]; exact few1⟩ (fun z => absurd z hm) fun _ => pm)
  by_cases pl : t1.plain = true
  · refine wp_if_pos pl (wpAny_bind (hb _ _ _ ?_))
    cases b
    · exact rest { t1 with plain := false } rfl rfl rfl rfl rfl
    · exact rest t1 rfl rfl rfl rfl rfl
  · refine wp_if_neg pl (wpAny_bind (wpAny_pure ?_))
    exact rest t1 rfl rfl rfl rfl rfl
end
end DLS
end
section
namespace DLS
open PySem PySem.Spec PyProof.Rows L2
section
variable {P : Program} {w : World} {A : Around} {E : Value → Shared → Prop} {s : Shared}
/-- what the first n of the entries ks have come to -/
structure Upto (ks : List Ent) (n : Nat) (L : List Ent) : Prop where
  sub : ∀ e ∈ L, e ∈ ks.take n
  all : ∀ e ∈ ks.take n, e.2 ∈ L.map (·.2)
theorem upto_zero (ks : List Ent) : Upto ks 0 [] := ⟨fun e h => absurd h List.not_mem_nil, fun e h => absurd (show e ∈ ([] : List Ent) from h) List.not_mem_nil⟩
theorem take_one {ks : List Ent} {n : Nat} {x : Ent} (h : ks[n]? = some x) : ks.take (n + 1) = ks.take n ++ [x] := by rw [List.take_succ, h]; rfl
theorem Upto.old {ks L : List Ent} {n : Nat} {x : Ent} (u : Upto ks n L) (h : ks[n]? = some x) (hm : x.2 ∈ L.map (·.2)) : Upto ks (n + 1) L := by
  rw [show Upto ks (n + 1) L ↔ _ from Iff.rfl]
  constructor <;> rw [take_one h]
  · exact fun e he => List.mem_append_left _ (u.sub e he)
  · intro e he
    rcases List.mem_append.mp he with z | z
    · exact u.all e z
    · rw [List.mem_singleton.mp z]; exact hm
theorem Upto.new {ks L M : List Ent} {n : Nat} {x : Ent} (u : Upto ks n L) (h : ks[n]? = some x) (pm : M.Perm (x :: L)) : Upto ks (n + 1) M := by
  constructor <;> rw [take_one h]
  · intro e he
    rcases List.mem_cons.mp (pm.mem_iff.mp he) with z | z
    · exact List.mem_append_right _ (by rw [z]; exact List.mem_singleton.mpr rfl)
    · exact List.mem_append_left _ (u.sub e z)
  · intro e he
    rw [(pm.map (·.2)).mem_iff, List.map_cons]
    rcases List.mem_append.mp he with z | z
    · exact List.mem_cons_of_mem _ (u.all e z)
    · rw [List.mem_singleton.mp z]; exact List.mem_cons_self
/-- fewer than 64 keys in all -/
def Few (ks : List Ent) : Prop := ∀ M : List NestedKey, M.Nodup → (∀ k ∈ M, k ∈ ks.map (·.2)) → M.length < 77
theorem tb_fresh {h : Heap} {a : Addr} (ho : h.get? a = some { cls := .type "set", dict := none, data := .set #[] 0 (.fresh 0 0 (!w.params.followText "set-order")) }) : Tb w h a [] #[] 0 (.fresh 0 0 (!w.params.followText "set-order")) := by
  have ld : w.params.followText "set-order" = true ∨ (!w.params.followText "set-order") = true := by cases w.params.followText "set-order" <;> simp
  exact ⟨⟨_, ho, ⟨rfl, rfl, rfl⟩, rfl⟩, rfl, ⟨List.Pairwise.nil, rfl, rfl, .inl rfl, fun x z => absurd z List.not_mem_nil, fun i z j q => by simp at q⟩, List.nodup_nil, fun e z => absurd z List.not_mem_nil, ld, (by show 0 * 5 < 7 * 3; decide), (by show 0 < 77; decide)⟩
theorem Tb.stay {h h' : Heap} {a : Addr} {L : List Ent} {es : Array (Int × Value)} {ep : Nat} {t : SetTable} (B : Tb w h a L es ep t) (ha : ∀ o, h.get? a = some o → h'.get? a = some o) (el : ∀ e ∈ L, El h' e.2 e.1) : Tb w h' a L es ep t := by
  obtain ⟨o, ho, r⟩ := B.at_
  exact ⟨⟨o, ha o ho, r⟩, B.rw_, B.tab, B.dif, el, B.led, B.spc, B.few⟩
/-- set.update, item by item -/
theorem fill_loop {I : Addr} {fp wr : List Addr} {G : Array GenState → Array GenState → Prop} {n : Nat} {Pv : Nat → Value → Prop} {St : Nat → Shared → Prop} {R : Result → Shared → Prop} (W : WalksS P w A.in1 I fp wr G n Pv St) (S : Addr) (nS : S ∉ fp)
    (ks : List Ent) (hn : n = ks.length) (few : Few ks) (val : ∀ i v, Pv i v → ∃ e, ks[i]? = some e ∧ v = .ref e.1) (h0 : Heap) (els : ∀ e ∈ ks, El h0 e.2 e.1) (s0 : h0.get? S = none) (w0 : ∀ b ∈ wr, h0.get? b = none) (hu : A.in1.units + 9 < cLine) :
    ∀ (left i : Nat) (s : Shared), n - i = left → i ≤ n → St i s → (∀ b o, h0.get? b = some o → s.heap.get? b = some o) → (∃ L es ep t, Tb w s.heap S L es ep t ∧ Upto ks i L) →
      (∀ s' L es ep t, Moved (S :: wr) G s s' → Tb w s'.heap S L es ep t → Upto ks n L → (∀ b o, h0.get? b = some o → s'.heap.get? b = some o) → R (.ok (.ret .none)) s') → codeAny (model P w) A (.builtin "set.update.loop" ⟨[.ref S, .ref I], []⟩) R s := by
  have nW : S ∉ wr := fun z => nS (W.sub _ z)
  have up : ∀ b ∈ wr, b ∈ S :: wr := fun b hb => List.mem_cons_of_mem _ hb
  have kpM : ∀ {s s' : Shared}, Moved wr G s s' → (∀ b o, h0.get? b = some o → s.heap.get? b = some o) → ∀ b o, h0.get? b = some o → s'.heap.get? b = some o := fun hm kp b o e => hm.heap b o (fun z => by rw [w0 b z] at e; cases e) (kp b o e)
  intro left
  induction left with
  | zero =>
    intro i s hl hi st kp ⟨L, es, ep, t, B, u⟩ fin
    obtain rfl : i = n := by omega
    refine codeAny_builtin F.entry_set_update_loop ?_
    rw [Around.under_plainId F.plain_set_update_loop _]
    show wpAny (model P w) A.in1 (pyNext (.ref I) >>= _) _ _ s
    refine wpAny_bind (W.done s _ _ st fun s' hm => ?_)
    show wpAny (model P w) A.in1 (ret Value.none) _ _ s'
    have kp' := kpM hm kp
    exact wpAny_pure (fin s' L es ep t (hm.mono up) (B.stay (fun o e => hm.heap S o nW e) fun e he => (els e (List.mem_of_mem_take (u.sub e he))).all kp') u kp')
  | succ left ih =>
    intro i s hl hi st kp ⟨L, es, ep, t, B, u⟩ fin
    have lt : i < n := by omega
    refine codeAny_builtin F.entry_set_update_loop ?_
    rw [Around.under_plainId F.plain_set_update_loop _]
    show wpAny (model P w) A.in1 (pyNext (.ref I) >>= _) _ _ s
    refine wpAny_bind (W.item i s _ _ lt st fun v s' hP st' hm => ?_)
    obtain ⟨e, he, rfl⟩ := val i v hP
    have kp' := kpM hm kp
    have B' : Tb w s'.heap S L es ep t := B.stay (fun o q => hm.heap S o nW q) fun e he => (els e (List.mem_of_mem_take (u.sub e he))).all kp'
    have x' : El s'.heap e.2 e.1 := (els e (List.mem_of_getElem? he)).all kp'
    show wpAny (model P w) A.in1 (holding [Value.ref e.1] (setAdd S (.ref e.1)) >>= _) _ _ s'
    refine wpAny_bind (wpAny_holding ?_)
    unfold setAdd
    refine wpAny_holding (wpAny_bind (pyHash_key e.2 (.ref e.1) A.in1 s' _ x'.is (by have := x'.dp; omega) ?_))
    have rm : e.2 ∉ L.map (·.2) → L.length + 1 < 77 := fun nm => by
      have z := few (e.2 :: L.map (·.2)) (List.nodup_cons.mpr ⟨nm, B.dif⟩) fun k hk => by
        rcases List.mem_cons.mp hk with rfl | hk
        · exact List.mem_map.mpr ⟨e, List.mem_of_getElem? he, rfl⟩
        · obtain ⟨e2, h2, rfl⟩ := List.mem_map.mp hk
          exact List.mem_map.mpr ⟨e2, List.mem_of_mem_take (u.sub e2 h2), rfl⟩
      simpa using z
    refine add_el (s := { s' with toks := s'.toks + e.2.draws }) B' x' (by omega) rm fun b h' L' es' ep' t' sb B2 c1 c2 => ?_
    have u' : Upto ks (i + 1) L' := by
      by_cases c : e.2 ∈ L.map (·.2)
      · rw [c1 c]; exact u.old he c
      · exact u.new he (c2 c)
    have kp2 : ∀ b o, h0.get? b = some o → h'.get? b = some o := fun b o q => (sb.2 b (fun z => by rw [z, s0] at q; cases q)).trans (kp' b o q)
    refine wpAny_pure ⟨plainId_quiet F.plain_set_update_loop _, ih (i + 1) _ (by omega) lt (W.frame _ s' _ _ st' (Nat.le_add_right _ _) fun b hb o q => ?_) kp2 ⟨L', es', ep', t', B2, u'⟩ fun s3 L3 es3 ep3 t3 hm3 B3 u3 kp3 => ?_⟩
    · rw [sb.2 b (fun z : b = S => nS (by rw [← z]; exact hb))]; exact q
    · refine fin s3 L3 es3 ep3 t3 (Moved.trans W.gtrans ((hm.mono up).then_heap (Nat.le_add_right _ _) fun b o hb q => ?_) hm3) B3 u3 kp3
      rw [sb.2 b (fun z : b = S => hb (by rw [z]; exact List.mem_cons_self))]; exact q
abbrev set0 (w : World) : Obj := { cls := .type "set", dict := none, data := .set #[] 0 (.fresh 0 0 (!w.params.followText "set-order")) }
/-- set(xs) -/
theorem make_set {l : Addr} {items : Array Value} (ks : List Ent) {Q : Value → Shared → Prop} (hh : A.handled = none) (hl : s.heap.IsList l items) (hit : items.toList = ks.map fun e => Value.ref e.1) (els : ∀ e ∈ ks, El s.heap e.2 e.1) (few : Few ks) (hu : A.units + 12 < cLine)
    (q : ∀ (h' : Heap) (tk : Nat) L es ep t, Tb w h' s.heap.objs.size L es ep t → Upto ks ks.length L → (∀ b o, s.heap.get? b = some o → h'.get? b = some o) → Q (.ref s.heap.objs.size) { s with heap := h', toks := tk }) : wpAny (model P w) A (call (.type "set") [.ref l]) Q E s := by
  have isz : items.size = ks.length := by
    have z := congrArg List.length hit
    rw [Array.length_toList, List.length_map] at z
    exact z
  obtain ⟨c0, tl0, hmro⟩ := F.called_set.mro
  have hmade := F.called_set.made
  have hsub := F.called_set.sub
  refine wpAny_call (codeAny_of_tree ?_)
  show wpAny _ _ (callAny (.type "set") _) _ _ _
  refine wpAny_pure ⟨Code.quiet_builtin _ (by decide +kernel), codeAny_builtin F.entry_type_call ?_⟩
  rw [Around.under_plain (weight_type_call_type "set" [.ref l] []) rfl]
  have k1 := F.called_set.notType
  have k2 := F.called_set.canCreate
  have k3 := F.typeCall_set_1 (.ref l)
  repeat (any_goals (first | assumption | wp_step))
  refine codeAny_mono (code_set_led1 (.ref l) (E := E) (Q₁ := fun ob s₁ => ob = .ref s.heap.objs.size ∧ s₁ = { s with heap := s.heap.push (set0 w) }) ⟨rfl, rfl⟩) fun r s₁ hr => ?_
  cases r with
  | error e => exact hr
  | ok fl =>
    cases fl with
    | ret ob =>
      obtain ⟨rfl, rfl⟩ := hr
      have hS : (s.heap.push (set0 w)).get? s.heap.objs.size = some (set0 w) := Heap.get?_push_size _ rfl
      have hT : Shared.TypeIs { s with heap := s.heap.push (set0 w) } (.ref s.heap.objs.size) "set" := ⟨_, hS, rfl⟩
      have k4 := F.called_set.init.lookup
      have k5 := F.called_set.init.bind (.ref s.heap.objs.size)
      repeat (any_goals (first | assumption | wp_step))
      refine codeAny_mono (codeAny_call_builtin (R := wants (fun r s₂ => r = .none ∧ ∃ h' tk L es ep t, s₂ = { s with heap := h', toks := tk } ∧ Tb w h' s.heap.objs.size L es ep t ∧ Upto ks ks.length L ∧ (∀ b o, s.heap.get? b = some o → h'.get? b = some o)) E)
        F.called_set.init.plain F.entry_set_init (check_set_init_1 hT ?_)) fun r₂ s₂ hr₂ => ?_
      · obtain ⟨⟨lc, ldi, lda, lsl⟩, hol, hcl, nl, hdl⟩ := hl
        simp only at hcl hdl
        subst hcl hdl
        have hol' : (s.heap.push (set0 w)).get? l = some { cls := .type "list", dict := ldi, data := .seq items nl, slots := lsl } := Heap.get?_push_of_some _ hol
        have k6 := F.sub_list_set
        have k7 := F.sub_list_frozenset
        have k8 : (Value.type "list" == Value.type "dict") = false := by decide
        have hl1 : (s.heap.push (set0 w)).IsList l items := ⟨_, hol', rfl, nl, rfl⟩
        unfold Builtin.«set.__init__» noKeywords Builtin.Frozenset.updateFrom
        generalize hPI : pyIter = PI
        wp_walk
        subst hPI
        refine wpAny_pyIter_list hl1 (wpAny_bind (wpAny_runValue ?_))
        have lS : l < s.heap.objs.size := Heap.lt_size hol
        have h3 : A.in1.in1.in1.handled = none := by simp [hh]
        have nI : l ≠ (s.heap.push (set0 w)).objs.size := by rw [Heap.size_push]; exact Nat.ne_of_lt (Nat.lt_succ_of_lt lS)
        have nS : s.heap.objs.size ∉ [(s.heap.push (set0 w)).objs.size, l] := by
          rw [Heap.size_push]
          simp only [List.mem_cons, List.not_mem_nil, or_false, not_or]
          exact ⟨Nat.ne_of_lt (Nat.lt_succ_self _), Nat.ne_of_gt lS⟩
        have val : ∀ (i : Nat) (v : Value), items[i]? = some v → ∃ e, ks[i]? = some e ∧ v = .ref e.1 := fun i v hv => by
          have z : items.toList[i]? = some v := by rw [Array.getElem?_toList]; exact hv
          rw [hit, List.getElem?_map] at z
          cases y : ks[i]? with
          | none => rw [y] at z; cases z
          | some e => rw [y] at z; cases z; exact ⟨e, rfl, rfl⟩
        have free : ∀ b, s.heap.objs.size ≤ b → s.heap.get? b = none := fun b hb => by
          cases y : s.heap.get? b with
          | none => rfl
          | some o => exact absurd (Nat.lt_of_lt_of_le (Heap.lt_size y) hb) (Nat.lt_irrefl _)
        have hu4 : A.in1.in1.in1.units + 9 < cLine := by show A.units + 1 + 1 + 1 + 9 < cLine; omega
        refine fill_loop ((Walks.list h3 _ l nI items).toS) s.heap.objs.size nS ks isz few val s.heap els (free _ (Nat.le_refl _)) (fun b hb => free b ?_) hu4 (items.size - 0) 0 _ (by omega) (Nat.zero_le _)
          ⟨⟨_, Heap.get?_push_size _ rfl, rfl, rfl⟩, (hl1.push _)⟩ (fun b o e => Heap.get?_push_of_some _ (Heap.get?_push_of_some _ e)) ?first ?last
        · rw [List.mem_singleton.mp hb, Heap.size_push]; exact Nat.le_succ _
        case first => exact ⟨[], #[], 0, _, tb_fresh (Heap.get?_push_of_some _ hS), upto_zero ks⟩
        case last =>
          intro s' L es ep t hm B u kp
          obtain ⟨h', g2, d2, tk, os2⟩ := s'
          obtain rfl : g2 = s.gens := hm.gens
          obtain rfl : d2 = s.drawn := hm.drawn
          obtain rfl : os2 = s.os := hm.os
          show wpAny _ _ _ _ _ _
          refine wpAny_pure ?_
          show wpAny _ _ (ret Value.none) _ _ _
          rw [isz] at u
          exact wpAny_pure ⟨rfl, h', tk, L, es, ep, t, rfl, B, u, kp⟩
      · cases r₂ with
        | error e => exact hr₂
        | ok fl₂ =>
          cases fl₂ with
          | ret r =>
            obtain ⟨rfl, h', tk, L, es, ep, t, rfl, B, u, kp⟩ := hr₂
            repeat (any_goals (first | assumption | wp_step))
            exact q _ _ _ _ _ _ B u kp
          | _ => exact hr₂.elim
    | _ => exact hr.elim
end
end DLS
end
section
namespace DL
open PySem PySem.Spec L2 PySem.SeqAt
open PyProof.Rows hiding St

/-! ### order of data -/
/-- the two can be asked for their order -/
def cmpD (a b : D) : Bool := okD a && okD b && PySem.W.alike (toPy a) (toPy b) && !isNb a
def dLt (a b : D) : Bool := PySem.W.dataLt (toPy a) (toPy b)
def rOrd (K : PySem.W.Frag) (g : PyData → PyData → Bool) : R2 := fun x y H Q => ∃ d e, Dp K H x d ∧ Dp K H y e ∧ PySem.W.alike d e = true ∧ d ≠ .none ∧ min d.depth e.depth ≤ 64 ∧ Q (.bl (g d e)) H
section
variable {X : Cx}
theorem op_ltO (hv : X.A.units + 130 < cLine) : OpR X (compareOp .Lt) (rOrd X.K fun d e => PySem.W.dataLt d e) := by
  intro pins s σ H x y v u Q I rx ry ⟨d, e, hd, he, al, nn, hz, q⟩
  obtain ⟨as, r1⟩ := Dp.reads I d x v hd rx
  obtain ⟨bs, r2⟩ := Dp.reads I e y u he ry
  exact PySem.W.lt_data r1 r2 al nn (by omega) ⟨.bl _, H, I, rfl, q⟩
theorem op_gtO (hv : X.A.units + 130 < cLine) : OpR X (compareOp .Gt) (rOrd X.K fun d e => PySem.W.dataLt e d) := by
  intro pins s σ H x y v u Q I rx ry ⟨d, e, hd, he, al, nn, hz, q⟩
  obtain ⟨as, r1⟩ := Dp.reads I d x v hd rx
  obtain ⟨bs, r2⟩ := Dp.reads I e y u he ry
  exact PySem.W.gt_data r1 r2 al nn (by omega) ⟨.bl _, H, I, rfl, q⟩
theorem op_leO (hv : X.A.units + 130 < cLine) : OpR X (compareOp .LtE) (rOrd X.K fun d e => !PySem.W.dataLt e d) := by
  intro pins s σ H x y v u Q I rx ry ⟨d, e, hd, he, al, nn, hz, q⟩
  obtain ⟨as, r1⟩ := Dp.reads I d x v hd rx
  obtain ⟨bs, r2⟩ := Dp.reads I e y u he ry
  exact PySem.W.le_data r1 r2 al nn (by omega) ⟨.bl _, H, I, rfl, q⟩
theorem op_geO (hv : X.A.units + 130 < cLine) : OpR X (compareOp .GtE) (rOrd X.K fun d e => !PySem.W.dataLt d e) := by
  intro pins s σ H x y v u Q I rx ry ⟨d, e, hd, he, al, nn, hz, q⟩
  obtain ⟨as, r1⟩ := Dp.reads I d x v hd rx
  obtain ⟨bs, r2⟩ := Dp.reads I e y u he ry
  exact PySem.W.ge_data r1 r2 al nn (by omega) ⟨.bl _, H, I, rfl, q⟩
end
section
variable {m : Md}
theorem opd_ord {g : PyData → PyData → Bool} : OpD m (rOrd m.K g) (fun a b => if cmpD a b = true then some (.bl (g (toPy a) (toPy b))) else none) := fun x y dx dy d H Q rx ry e k => by
  have e : (if cmpD dx dy = true then some (D.bl (g (toPy dx) (toPy dy))) else none) = some d := e
  by_cases c : cmpD dx dy = true
  · rw [if_pos c] at e; cases e
    unfold cmpD at c
    simp only [Bool.and_eq_true, Bool.not_eq_true'] at c
    obtain ⟨⟨⟨c1, c2⟩, c3⟩, c4⟩ := c
    refine ⟨toPy dx, toPy dy, rx.dp (SeqAt.canLay_of_shaped c1), ry.dp (SeqAt.canLay_of_shaped c2), c3, ?_, Nat.le_trans (Nat.min_le_left _ _) (SeqAt.depth_of_shaped c1), k _ H Grow.rfl (.bl _)⟩
    cases dx <;> simp [toPy, isNb] at c4 ⊢
  · rw [if_neg c] at e; cases e
def ltA (a b : D) : Option D := (ltD a b).or (if cmpD a b = true then some (.bl (dLt a b)) else none)
def gtA (a b : D) : Option D := (gtD a b).or (if cmpD a b = true then some (.bl (dLt b a)) else none)
def leA (a b : D) : Option D := (leD a b).or (if cmpD a b = true then some (.bl (!dLt b a)) else none)
def geA (a b : D) : Option D := (geD a b).or (if cmpD a b = true then some (.bl (!dLt a b)) else none)
def rLtA (K : PySem.W.Frag) : R2 := fun x y H Q => (rI0 fun i j => .bl (decide (i < j))) x y H Q ∨ rOrd K (fun d e => PySem.W.dataLt d e) x y H Q
def rGtA (K : PySem.W.Frag) : R2 := fun x y H Q => (rI0 fun i j => .bl (decide (j < i))) x y H Q ∨ rOrd K (fun d e => PySem.W.dataLt e d) x y H Q
def rLeA (K : PySem.W.Frag) : R2 := fun x y H Q => (rI0 fun i j => .bl (decide (i ≤ j))) x y H Q ∨ rOrd K (fun d e => !PySem.W.dataLt e d) x y H Q
def rGeA (K : PySem.W.Frag) : R2 := fun x y H Q => (rI0 fun i j => .bl (decide (j ≤ i))) x y H Q ∨ rOrd K (fun d e => !PySem.W.dataLt d e) x y H Q
theorem opd_ltA : OpD m (rLtA m.K) ltA := opd_lt.or opd_ord
theorem opd_gtA : OpD m (rGtA m.K) gtA := opd_gt.or opd_ord
theorem opd_leA : OpD m (rLeA m.K) leA := opd_le.or opd_ord
theorem opd_geA : OpD m (rGeA m.K) geA := opd_ge.or opd_ord
theorem op_ltA {X : Cx} (hv : X.A.units + 130 < cLine) : OpR X (compareOp .Lt) (rLtA X.K) := op_lt.or (op_ltO hv)
theorem op_gtA {X : Cx} (hv : X.A.units + 130 < cLine) : OpR X (compareOp .Gt) (rGtA X.K) := op_gt.or (op_gtO hv)
theorem op_leA {X : Cx} (hv : X.A.units + 130 < cLine) : OpR X (compareOp .LtE) (rLeA X.K) := op_le.or (op_leO hv)
theorem op_geA {X : Cx} (hv : X.A.units + 130 < cLine) : OpR X (compareOp .GtE) (rGeA X.K) := op_ge.or (op_geO hv)

/-! ### x in y -/
/-- the key that a dict knows it by -/
def sameK : D → D → Bool
  | .int i, .int j => decide (i = j)
  | .str i, .str j => decide (i = j)
  | _, _ => false
def dicGet (x : D) : List D → List D → Option D
  | k :: ks, v :: vs => if sameK k x = true then some v else dicGet x ks vs
  | _, _ => none
def inD (x y : D) : Option D := match y with
  | .lst ds => if (okD x && okD y) = true then some (.bl (ds.any fun z => eqvD z x)) else none
  | .tup ds => if (okD x && okD y) = true then some (.bl (ds.any fun z => eqvD z x)) else none
  | .str z => (match x with
    | .str w => (match w.cps.toList with
      | [c] => some (.bl (decide (c ∈ z.cps.toList)))
      | _ => none)
    | _ => none)
  | .dic ks vs => if (isK x && ks.all isK) = true then some (.bl (dicGet x ks vs).isSome) else none
  | _ => none
def ninD (x y : D) : Option D := (inD x y).map fun d => match d with
  | .bl b => .bl (!b)
  | d => d
def rInA (K : PySem.W.Frag) : R2 := fun x y H Q => rInD K x y H Q ∨
  (∃ d ds, Dp K H x d ∧ Dp K H y (.tuple ds) ∧ SeqAt.shaped d = true ∧ SeqAt.shaped (.tuple ds) = true ∧ Q (.bl (ds.any fun z => PyData.eqv z d)) H) ∨
  (∃ (c : Nat) (z : Str), x = .str ⟨#[c]⟩ ∧ y = .str z ∧ Q (.bl (decide (c ∈ z.cps.toList))) H) ∨
  (∃ a o, y = .ref a ∧ DGet H a x o ∧ Q (.bl o.isSome) H)
def rNinA (K : PySem.W.Frag) : R2 := fun x y H Q => rNotInD K x y H Q ∨
  (∃ d ds, Dp K H x d ∧ Dp K H y (.tuple ds) ∧ SeqAt.shaped d = true ∧ SeqAt.shaped (.tuple ds) = true ∧ Q (.bl (!ds.any fun z => PyData.eqv z d)) H) ∨
  (∃ (c : Nat) (z : Str), x = .str ⟨#[c]⟩ ∧ y = .str z ∧ Q (.bl (!decide (c ∈ z.cps.toList))) H) ∨
  (∃ a o, y = .ref a ∧ DGet H a x o ∧ Q (.bl (!o.isSome)) H)
section
variable {X : Cx}
theorem op_inT (hv : X.A.units + 130 < cLine) : OpR X (compareOp .In) (fun x y H Q => ∃ d ds, Dp X.K H x d ∧ Dp X.K H y (.tuple ds) ∧ SeqAt.shaped d = true ∧ SeqAt.shaped (.tuple ds) = true ∧ Q (.bl (ds.any fun z => PyData.eqv z d)) H) := by
  intro pins s σ H x y v u Q I rx ry ⟨d, ds, hd, he, sd, se, q⟩
  obtain ⟨as, r1⟩ := Dp.reads I d x v hd rx
  obtain ⟨bs, r2⟩ := Dp.reads I (.tuple ds) y u he ry
  exact SeqAt.in_tuple_reads r2 r1 (SeqAt.canLay_of_shaped se) (SeqAt.canLay_of_shaped sd) (room_in_shaped sd (by omega)) ⟨.bl _, H, I, rfl, q⟩
theorem op_ninT (hv : X.A.units + 130 < cLine) : OpR X (compareOp .NotIn) (fun x y H Q => ∃ d ds, Dp X.K H x d ∧ Dp X.K H y (.tuple ds) ∧ SeqAt.shaped d = true ∧ SeqAt.shaped (.tuple ds) = true ∧ Q (.bl (!ds.any fun z => PyData.eqv z d)) H) := by
  intro pins s σ H x y v u Q I rx ry ⟨d, ds, hd, he, sd, se, q⟩
  obtain ⟨as, r1⟩ := Dp.reads I d x v hd rx
  obtain ⟨bs, r2⟩ := Dp.reads I (.tuple ds) y u he ry
  exact SeqAt.notIn_tuple_reads r2 r1 (SeqAt.canLay_of_shaped se) (SeqAt.canLay_of_shaped sd) (room_in_shaped sd (by omega)) ⟨.bl _, H, I, rfl, q⟩
theorem op_inK (hv : X.A.units + 130 < cLine) : OpR X (compareOp .In) (fun x y H Q => ∃ a o, y = .ref a ∧ DGet H a x o ∧ Q (.bl o.isSome) H) := by
  intro pins s σ H x y v u Q I rx ry ⟨a, o, ey, g, q⟩
  subst ey
  obtain rfl : u = Value.ref a := ry
  exact d_in (by omega) I g rx fun s2 I2 => ⟨.bl _, H, I2, rfl, q⟩
theorem op_ninK (hv : X.A.units + 130 < cLine) : OpR X (compareOp .NotIn) (fun x y H Q => ∃ a o, y = .ref a ∧ DGet H a x o ∧ Q (.bl (!o.isSome)) H) := by
  intro pins s σ H x y v u Q I rx ry ⟨a, o, ey, g, q⟩
  subst ey
  obtain rfl : u = Value.ref a := ry
  exact d_notIn (by omega) I g rx fun s2 I2 => ⟨.bl _, H, I2, rfl, q⟩
theorem op_inA (hv : X.A.units + 130 < cLine) : OpR X (compareOp .In) (rInA X.K) := (op_inD (by omega)).or ((op_inT hv).or (op_in_sign.or (op_inK hv)))
theorem op_ninA (hv : X.A.units + 130 < cLine) : OpR X (compareOp .NotIn) (rNinA X.K) := (op_notInD (by omega)).or ((op_ninT hv).or (op_notIn_sign.or (op_ninK hv)))
end
theorem any_py (x : D) : ∀ ds : List D, (toPyL ds).any (fun z => PyData.eqv z (toPy x)) = ds.any fun z => eqvD z x
  | [] => rfl
  | d :: ds => by simp only [toPyL, List.any_cons, any_py x ds, eqvD]
theorem key_rep {H : Hp} {v : V} {x : D} (r : Rep m H v x) (h : isK x = true) : ∃ k : Key, v = kV k ∧ x = keyD k := by
  cases r <;> first | exact ⟨.inl _, rfl, rfl⟩ | exact ⟨.inr _, rfl, rfl⟩ | simp [isK] at h
theorem same_key (k k' : Key) : sameK (keyD k) (keyD k') = decide (k = k') := by
  cases k <;> cases k' <;> simp [sameK, keyD]
/-- what a frozen dict gives for a key -/
theorem dget_rep {H : Hp} (k : Key) : ∀ {kvs : List (Key × V)} {ds : List D}, RepL m H (kvs.map (·.2)) ds → (∀ d, dicGet (keyD k) (kvs.map fun p => keyD p.1) ds = some d → ∃ v, valV kvs k = some v ∧ Rep m H v d) ∧ (dicGet (keyD k) (kvs.map fun p => keyD p.1) ds = none → valV kvs k = none)
  | [], ds, r => ⟨fun d h => by cases r; simp [dicGet] at h, fun _ => rfl⟩
  | (k0, v0) :: kvs, ds, r => by
    cases r with
    | cons a b =>
      obtain ⟨i1, i2⟩ := dget_rep k b
      simp only [List.map_cons, dicGet, same_key]
      by_cases e : k0 = k
      · have ev : valV ((k0, v0) :: kvs) k = some v0 := by unfold valV; simp [e]
        refine ⟨fun d h => ?_, fun h => ?_⟩
        · simp [e] at h; subst h; exact ⟨v0, ev, a⟩
        · simp [e] at h
      · have ev : valV ((k0, v0) :: kvs) k = valV kvs k := by unfold valV; simp [e]
        refine ⟨fun d h => ?_, fun h => ?_⟩
        · simp [e] at h; rw [ev]; exact i1 d h
        · simp [e] at h; rw [ev]; exact i2 h
theorem dget_frz {H : Hp} {a : Addr} {o : Obj} {kvs : List (Key × V)} (e : H a = some (.frz o (.dK kvs))) (k : Key) : DGet H a (kV k) (valV kvs k) := .inl ⟨kvs, k, .inr ⟨o, e⟩, rfl, rfl⟩
theorem opd_in : OpD m (rInA m.K) inD := fun x y dx dy d H Q rx ry e k => by
  unfold inD at e
  split at e
  · rename_i ds
    split at e
    · rename_i c
      rw [Bool.and_eq_true] at c
      cases e
      refine .inl ⟨toPy dx, toPyL ds, rx.dp (SeqAt.canLay_of_shaped c.1), ry.dp (SeqAt.canLay_of_shaped c.2), c.1, c.2, ?_⟩
      rw [any_py]; exact k _ H Grow.rfl (.bl _)
    · cases e
  · rename_i ds
    split at e
    · rename_i c
      rw [Bool.and_eq_true] at c
      cases e
      refine .inr (.inl ⟨toPy dx, toPyL ds, rx.dp (SeqAt.canLay_of_shaped c.1), ry.dp (SeqAt.canLay_of_shaped c.2), c.1, c.2, ?_⟩)
      rw [any_py]; exact k _ H Grow.rfl (.bl _)
    · cases e
  · cases ry
    cases rx with
    | str w =>
      obtain ⟨⟨l⟩⟩ := w
      cases l with
      | nil => cases e
      | cons c l =>
        cases l with
        | nil =>
          cases e
          exact .inr (.inr (.inl ⟨c, _, rfl, rfl, k _ H Grow.rfl (.bl _)⟩))
        | cons _ _ => cases e
    | _ => cases e
  · split at e
    · rename_i c
      cases e
      rw [Bool.and_eq_true] at c
      obtain ⟨ky, rfl, rfl⟩ := key_rep rx c.1
      cases ry with
      | dicN q n e r1 r2 => exact (notK r1 n c.2).elim
      | dicK q r =>
        rename_i a o kvs
        obtain ⟨i1, i2⟩ := dget_rep ky r
        refine .inr (.inr (.inr ⟨_, _, rfl, dget_frz q ky, ?_⟩))
        cases hg : dicGet (keyD ky) (kvs.map fun p => keyD p.1) _ with
        | none => rw [i2 hg]; rw [hg] at k; exact k _ H Grow.rfl (.bl _)
        | some d =>
          obtain ⟨v, h1, h2⟩ := i1 d hg
          rw [h1]; rw [hg] at k; exact k _ H Grow.rfl (.bl _)
    · cases e
  · cases e
theorem opd_nin : OpD m (rNinA m.K) ninD := fun x y dx dy d H Q rx ry e k => by
  unfold ninD inD at e
  split at e
  · rename_i ds
    split at e
    · rename_i c
      rw [Bool.and_eq_true] at c
      cases e
      refine .inl ⟨toPy dx, toPyL ds, rx.dp (SeqAt.canLay_of_shaped c.1), ry.dp (SeqAt.canLay_of_shaped c.2), c.1, c.2, ?_⟩
      rw [any_py]; exact k _ H Grow.rfl (.bl _)
    · cases e
  · rename_i ds
    split at e
    · rename_i c
      rw [Bool.and_eq_true] at c
      cases e
      refine .inr (.inl ⟨toPy dx, toPyL ds, rx.dp (SeqAt.canLay_of_shaped c.1), ry.dp (SeqAt.canLay_of_shaped c.2), c.1, c.2, ?_⟩)
      rw [any_py]; exact k _ H Grow.rfl (.bl _)
    · cases e
  · cases ry
    cases rx with
    | str w =>
      obtain ⟨⟨l⟩⟩ := w
      cases l with
      | nil => cases e
      | cons c l =>
        cases l with
        | nil =>
          cases e
          exact .inr (.inr (.inl ⟨c, _, rfl, rfl, k _ H Grow.rfl (.bl _)⟩))
        | cons _ _ => cases e
    | _ => cases e
  · split at e
    · rename_i c
      cases e
      rw [Bool.and_eq_true] at c
      obtain ⟨ky, rfl, rfl⟩ := key_rep rx c.1
      cases ry with
      | dicN q n e r1 r2 => exact (notK r1 n c.2).elim
      | dicK q r =>
        rename_i a o kvs
        obtain ⟨i1, i2⟩ := dget_rep ky r
        refine .inr (.inr (.inr ⟨_, _, rfl, dget_frz q ky, ?_⟩))
        cases hg : dicGet (keyD ky) (kvs.map fun p => keyD p.1) _ with
        | none => rw [i2 hg]; rw [hg] at k; exact k _ H Grow.rfl (.bl _)
        | some d =>
          obtain ⟨v, h1, h2⟩ := i1 d hg
          rw [h1]; rw [hg] at k; exact k _ H Grow.rfl (.bl _)
    · cases e
  · cases e
end
/-! ### a < b < c -/
section
variable {X : Cx} {G : Gh} {W : WX} {a b c : Expr} {pos : Pos}
def chainM (g g' : D → D → Option D) (fa fb fc : M D) : M D := bindM fa fun x => bindM fb fun y => bindM (liftM (g x y)) fun z => match z with
  | .bl true => bindM fc fun w => liftM (g' y w)
  | .bl false => pureM (.bl false)
  | _ => stuckM
theorem chain_run {r r' : R2} {g g' : D → D → Option D} {fa fb fc : M D} {ta tb tc : TE} (hr : OpD G.m r g) (hr' : OpD G.m r' g') (ia : ∀ σ H Q, dT G W fa σ H Q → ta σ H Q) (ib : ∀ σ H Q, dT G W fb σ H Q → tb σ H Q) (ic : ∀ σ H Q, dT G W fc σ H Q → tc σ H Q) {σ : L2.St} {H : Hp} {Q : VK}
    (h : dT G W (chainM g g' fa fb fc) σ H Q) : tChain r r' ta tb tc σ H Q := by
  obtain ⟨ρ, k, q⟩ := h
  refine ia _ _ _ ⟨ρ, k, q.bind.mono fun x ρ1 H1 _ s1 k1 q1 v rv => ?_⟩
  refine ib _ _ _ ⟨ρ1, k1, q1.bind.mono fun y ρ2 H2 _ s2 k2 q2 w rw' => ?_⟩
  have q2 := q2.bind
  obtain ⟨d, e, q3⟩ := q2.lift k2
  refine hr v w x y d H2 _ (rv.st s2) rw' e fun u H3 g3 r3 => ?_
  have q4 := q3 H3 g3.stable (k2.grow g3)
  have k3 := k2.grow g3
  cases r3 with
  | bl b0 =>
    refine ⟨b0, rfl, ?_⟩
    cases b0 with
    | false => rw [if_neg (by decide)]; exact q4 H3 Stable.rfl k3 _ (.bl false)
    | true =>
      rw [if_pos rfl]
      refine ic _ _ _ ⟨ρ2, k3, (postG.bind q4).mono fun z ρ4 H4 _ s4 k4 q5 w' r' => ?_⟩
      obtain ⟨d', e', q6⟩ := q5.lift k4
      exact hr' w w' y z d' H4 Q ((rw'.st g3.stable).st s4) r' e' fun u' H5 g5 r5 => q6 H5 g5.stable (k4.grow g5) u' r5
  | _ => exact q4.elim
theorem de_chain {op op' : CmpOp} {r r' : R2} {g g' : D → D → Option D} {fa fb fc : M D} (ho : OpR X (compareOp op) r) (hr : OpD G.m r g) (ho' : OpR X (compareOp op') r') (hr' : OpD G.m r' g') (ha : DE X G W a fa) (hb : DE X G W b fb) (hc : DE X G W c fc) (hm : lastMarks [op, op'] [b, c] = false := by with_unfolding_all rfl) : DE X G W (.Compare a [op, op'] [b, c] pos) (chainM g g' fa fb fc) :=
  pe_imp (pe_chain ho ho' ha hb hc hm) fun σ H Q h => chain_run hr hr' (fun _ _ _ z => z) (fun _ _ _ z => z) (fun _ _ _ z => z) h
theorem dt_chain {op op' : CmpOp} {r r' : R2} {g g' : D → D → Option D} {fa fb fc : M D} (ho : OpR X (compareOp op) r) (hr : OpD G.m r g) (ho' : OpR X (compareOp op') r') (hr' : OpD G.m r' g') (ha : DE X G W a fa) (hb : DE X G W b fb) (hc : DE X G W c fc) (hm : lastMarks [op, op'] [b, c] = false := by with_unfolding_all rfl) : DT X G W (.Compare a [op, op'] [b, c] pos) (boolM (chainM g g' fa fb fc)) :=
  pt_imp (pt_chain ho ho' ha hb hc hm) fun σ H Q ⟨ρ, k, q⟩ => chain_run hr hr' (fun _ _ _ z => z) (fun _ _ _ z => z) (fun _ _ _ z => z) ⟨ρ, k, q.bind.mono fun d ρ1 H1 _ s1 k1 q1 v r => by
    cases r with
    | bl b => exact ⟨b, rfl, q1 H1 Stable.rfl k1⟩
    | _ => exact q1.elim⟩
end
end DL
end
section
namespace DL
open PySem PySem.Spec L2 PySem.SeqAt
open PyProof.Rows hiding St

/-! ### fields -/
def fldD (f : Str) : List Str → List D → Option D
  | n :: ns, d :: ds => if n = f then some d else fldD f ns ds
  | _, _ => none
theorem fld_rep {m : Md} {H : Hp} {f : Str} : ∀ {ns : List Str} {vs : List V} {ds : List D} {d : D}, ns.length = vs.length → RepL m H vs ds → fldD f ns ds = some d → ∃ v, (ns.zip vs).lookup f = some v ∧ Rep m H v d
  | [], vs, ds, d, hl, r, e => by simp [fldD] at e
  | n :: ns, [], ds, d, hl, r, e => by simp at hl
  | n :: ns, v :: vs, ds, d, hl, r, e => by
    cases r with
    | cons a b =>
      unfold fldD at e
      rw [List.zip_cons_cons, List.lookup_cons]
      by_cases c : n = f
      · rw [if_pos c] at e; cases e
        subst c
        exact ⟨v, by simp, a⟩
      · rw [if_neg c] at e
        obtain ⟨w, h1, h2⟩ := fld_rep (by simpa using hl) b e
        refine ⟨w, ?_, h2⟩
        have : (f == n) = false := by simpa using fun z => c z.symm
        rw [this]; exact h1
theorem nofld {f : Str} : ∀ {ns : List Str} {vs : List V}, f ∉ ns → (ns.zip vs).lookup f = none
  | [], vs, h => by simp
  | n :: ns, [], h => by simp
  | n :: ns, v :: vs, h => by
    rw [List.zip_cons_cons, List.lookup_cons]
    have : (f == n) = false := by simpa using fun z => h (by rw [z]; exact List.mem_cons_self)
    rw [this]
    exact nofld fun z => h (List.mem_cons_of_mem _ z)
/-- the class c of the text and its fields -/
structure ClsD (K : PySem.W.Frag) (mg : Str → Option Value) (c : Str) (fs : List Str) : Prop where
  ex : ∃ C, mg c = some (.ref C) ∧ Cls K C ∧ ∀ f ∈ fs, NoAttr K C f
def fldM (c f : Str) (fo : M D) : M D := bindM fo fun o => match o with
  | .ins c' ns ds => if c' = c then liftM (fldD f ns ds) else stuckM
  | _ => stuckM
section
variable {X : Cx} {G : Gh} {W : WX} {o e : Expr} {es : List Expr} {pos apos : Pos} {c f : Str} {fs : List Str}
theorem de_fld {fo : M D} (hm0 : G.m = ⟨X.K, X.mg, X.w⟩) (T : ClsD X.K X.mg c fs) (hf : f ∈ fs) (ho : DE X G W o fo) (hb : attributeBase o f X.env (eval o X.env) = eval o X.env := by rfl) : DE X G W (.Attribute o f pos) (fldM c f fo) := by
  obtain ⟨C, h1, h2, h3⟩ := T.ex
  exact pe_imp (pe_fld ho hb) fun σ H Q ⟨ρ, k, q⟩ => ⟨ρ, k, q.bind.mono fun d ρ1 H1 _ s1 k1 q1 v r => by
    cases r with
    | ins hm hH hl hr =>
      rename_i a C' dx c' ns vs ds eqf
      by_cases e : c' = c
      · subst e
        simp only [if_true] at q1
        obtain ⟨x, e2, q2⟩ := q1.lift k1
        rw [hm0] at hm
        have hm : X.mg c' = some (.ref C') := hm
        rw [h1] at hm; cases hm
        obtain ⟨w, g1, g2⟩ := fld_rep hl hr e2
        exact ⟨a, _, dx, _, w, rfl, hH, h2, h3 f hf, g1, q2 H1 Stable.rfl k1 w g2⟩
      · simp only [e, if_false] at q1; exact q1.elim
    | _ => exact q1.elim⟩
/-! ### methods -/
def tMe (C : Addr) (nm : Str) (sp : Sp) (E : L2.St → XK) (to : TE) (ta : TA) : TE := fun σ H Q => to σ H fun x H1 => ∃ a dx fl, x = .ref a ∧ H1 a = some (.ins C dx fl) ∧ fl.lookup nm = none ∧ ta σ H1 fun vs H2 => sp (x :: vs) H2 Q (E σ)
variable {CX : CXT} {kk : Nat} {fA C : Addr} {fd : FuncData} {ps : List Str} {sp : Sp} {E : L2.St → XK} {nm : Str} {to : TE} {ta : TA} {pl : Sem Bool}
theorem pe_me (ho : PE X o to) (cl : Cls X.K C) (me : Meth X.K C nm fA) (F : FnOk X.prog X.w X.K X.mg X.base CX kk fA fd ps sp) (rm : Room kk X.A) (bd : Binds X.K fd ps []) (px : ∀ σ, PassesAt CX X σ (E σ)) (hA : PA X (e :: es) ta)
    (h1 : starEach (e :: es) X.env = (false, eval e X.env) :: starEach es X.env := by rfl) (h2 : (backTo pos (starEach es X.env)).any (·.1) = false := by rfl)
    (h3 : eval (.Call (.Attribute o nm apos) (e :: es) [] pos) X.env = (do
      let w ← eval o X.env
      standAt apos.atName
      let (g, fst) ← holding [w] (getMethod w nm pl)
      callWith pos g fst (backTo pos (starEach (e :: es) X.env)) (backToKw pos (keywordEach [] X.env))) := by rfl) :
    PE X (.Call (.Attribute o nm apos) (e :: es) [] pos) (tMe C nm sp E to ta) := ⟨fun pn st σ H Q J q0 => by
  refine PySem.W.methodCall_KW (pl := pl) (thn (ho.run pn st σ H _ J q0) fun w st1 r1 => ?_) h3
  obtain ⟨y, H1, J1, ry, a, dx, fl, ey, ea, ln, q1⟩ := r1
  subst ey
  obtain rfl : w = Value.ref a := ry
  refine getmeth_ok J1 ea cl me ln (PySem.W.callWith_K (first := [.ref a]) (h₀ := X.base) J.ok.mod.kin me.kp (thn (hA.run pos pn st1 σ H1 _ J1 q1) fun us st2 r2 => ?_) h1 h2)
  obtain ⟨vs, H2, J2, rv, q2⟩ := r2
  exact ⟨J2.kIn, run_fnS (us := .ref a :: us) (vs := .ref a :: vs) F rm bd (px σ) J2 (.cons rfl rv) q2⟩⟩
end
/-- a method of the text -/
structure DMe (P : Program) (w : World) (K : PySem.W.Frag) (mg : Str → Option Value) (base : Heap) (c nm : Str) (k : Nat) (md : List Bool) (f : Fn) : Prop where
  ex : ∃ C fA fd ps, mg c = some (.ref C) ∧ Cls K C ∧ Meth K C nm fA ∧ Binds K fd ps [] ∧ FnOk P w K mg base (L2.CX P w) k fA fd ps (spD ⟨K, mg, w⟩ none md .f f)
theorem DMe.mono {P : Program} {w : World} {K : PySem.W.Frag} {mg : Str → Option Value} {base : Heap} {c nm : Str} {j k : Nat} {md : List Bool} {f : Fn} (h : DMe P w K mg base c nm j md f) (hj : j ≤ k) : DMe P w K mg base c nm k md f := by
  obtain ⟨C, fA, fd, ps, h1, h2, h3, h4, h5⟩ := h.ex
  exact ⟨C, fA, fd, ps, h1, h2, h3, h4, h5.mono hj⟩
def methD (c nm : Str) (md : List Bool) (f : Fn) (fo : M D) (fa : M (List Ag)) : M D := bindM fo fun x => match x with
  | .ins c' ns ds => if c' = c ∧ nm ∉ ns then callM f (mdM md (bindM fa fun ags => pureM (.d (.ins c' ns ds) :: ags))) else stuckM
  | _ => stuckM
section
variable {X : Cx} {G : Gh} {W : WX} {o e : Expr} {es : List Expr} {pos apos : Pos} {c nm : Str} {j k : Nat} {md : List Bool} {f : Fn} {fo : M D} {fa : M (List Ag)} {pl : Sem Bool}
theorem meth_run {C fA : Addr} {fd : FuncData} {ps : List Str} {ta : TA} (hex : G.ex = none) (hm0 : G.m = ⟨X.K, X.mg, X.w⟩) (h1 : X.mg c = some (.ref C)) (ia : ∀ σ H Q, gT G W fa σ H Q → ta σ H Q) {σ : L2.St} {H : Hp} {Q : VK} (h : dT G W (methD c nm md f fo fa) σ H Q) :
    tMe C nm (spD ⟨X.K, X.mg, X.w⟩ none md .f f) (WE W) (dT G W fo) ta σ H Q := by
  obtain ⟨ρ, k0, q⟩ := h
  refine ⟨ρ, k0, q.bind.mono fun d ρ1 H1 _ s1 k1 q1 v r => ?_⟩
  cases r with
  | ins hm hH hl hr =>
    rename_i a C' dx c' ns vs ds eqf
    by_cases e : c' = c ∧ nm ∉ ns
    · obtain ⟨e, e2⟩ := e
      subst e
      simp only [e2, not_false_eq_true, and_self, if_true] at q1
      have hm' := hm
      rw [hm0] at hm
      have hm : X.mg c' = some (.ref C') := hm
      rw [h1] at hm; cases hm
      refine ⟨a, dx, _, rfl, hH, nofld e2, ia _ _ _ ⟨ρ1, k1, ?_⟩⟩
      refine (mdM_run q1).bind.mono fun ags ρ2 H2 _ s2 k2 q2 ws rs fs => ?_
      have q3 := q2 H2 Stable.rfl k2
      have rr : Rep G.m H2 (.ref a) (.ins c' ns ds) := (Rep.ins hm' hH hl hr).st s2
      have z := call_run (md := md) (rm := .f) (Q := Q) (vs := .ref a :: ws) hex k2 (.d rr rs) (fs.cons fun c z => by cases z) (fun ρ' e => by rw [e]; exact q3.1) q3.2 fun d' ρ' v' H' st k' _ rf q => q v' rf
      rw [hm0] at z
      exact z
    · simp only [e, if_false] at q1; exact q1.elim
  | _ => exact q1.elim
theorem de_meth (hex : G.ex = none) (hm0 : G.m = ⟨X.K, X.mg, X.w⟩) (tk : Takes X W) (T : DMe X.prog X.w X.K X.mg X.base c nm j md f) (hr : Room k X.A) (hk : j ≤ k) (ho : DE X G W o fo) (ha : DG X G W (e :: es) fa)
    (h1 : starEach (e :: es) X.env = (false, eval e X.env) :: starEach es X.env := by rfl) (h2 : (backTo pos (starEach es X.env)).any (·.1) = false := by rfl)
    (h3 : eval (.Call (.Attribute o nm apos) (e :: es) [] pos) X.env = (do
      let w ← eval o X.env
      standAt apos.atName
      let (g, fst) ← holding [w] (getMethod w nm pl)
      callWith pos g fst (backTo pos (starEach (e :: es) X.env)) (backToKw pos (keywordEach [] X.env))) := by rfl) : DE X G W (.Call (.Attribute o nm apos) (e :: es) [] pos) (methD c nm md f fo fa) := by
  obtain ⟨C, fA, fd, ps, g1, g2, g3, g4, g5⟩ := T.ex
  exact pe_imp (pe_me ho g2 g3 g5 (hr.mono hk) g4 (fun σ => passAt tk σ) ha h1 h2 h3) fun σ H Q h => meth_run hex hm0 g1 (fun _ _ _ z => z) h (fd := fd) (ps := ps) (fA := fA)
end
end DL
end
section
namespace DL
open PySem PySem.Spec L2 PySem.SeqAt
open PyProof.Rows hiding St

/-! ### sorted -/
section
variable {α : Type} {le : α → α → Bool}
def insO (le : α → α → Bool) (x : α) : List α → List α
  | [] => [x]
  | y :: l => if le x y = true then x :: y :: l else y :: insO le x l
def isort (le : α → α → Bool) : List α → List α
  | [] => []
  | x :: l => insO le x (isort le l)
theorem insO_mem {x z : α} : ∀ {l : List α}, z ∈ insO le x l → z = x ∨ z ∈ l
  | [], h => by simp [insO] at h; exact .inl h
  | y :: l, h => by
    unfold insO at h
    by_cases c : le x y = true
    · rw [if_pos c] at h; simpa using h
    · rw [if_neg c] at h
      rcases List.mem_cons.mp h with h | h
      · exact .inr (by rw [h]; exact List.mem_cons_self)
      · rcases insO_mem h with h | h
        · exact .inl h
        · exact .inr (List.mem_cons_of_mem _ h)
theorem insO_pw (T : PySem.W.TotalLe le) {x : α} : ∀ {l : List α}, l.Pairwise (fun a b => le a b = true) → (insO le x l).Pairwise (fun a b => le a b = true)
  | [], _ => List.pairwise_singleton _ _
  | y :: l, h => by
    obtain ⟨h1, h2⟩ := List.pairwise_cons.mp h
    unfold insO
    by_cases c : le x y = true
    · rw [if_pos c]
      refine List.pairwise_cons.mpr ⟨fun z hz => ?_, h⟩
      rcases List.mem_cons.mp hz with rfl | hz
      · exact c
      · exact T.trans _ _ _ c (h1 z hz)
    · rw [if_neg c]
      refine List.pairwise_cons.mpr ⟨fun z hz => ?_, insO_pw T h2⟩
      rcases insO_mem hz with rfl | hz
      · exact (T.total z y).resolve_left c
      · exact h1 z hz
theorem isort_pw (T : PySem.W.TotalLe le) : ∀ l : List α, (isort le l).Pairwise (fun a b => le a b = true)
  | [] => List.Pairwise.nil
  | x :: l => insO_pw T (isort_pw T l)
theorem insO_filter (T : PySem.W.TotalLe le) {x c : α} : ∀ l : List α, l.Pairwise (fun a b => le a b = true) → (insO le x l).filter (PySem.W.sameRank le c) = (x :: l).filter (PySem.W.sameRank le c)
  | [], _ => rfl
  | y :: l, h => by
    obtain ⟨h1, h2⟩ := List.pairwise_cons.mp h
    unfold insO
    by_cases q : le x y = true
    · rw [if_pos q]
    · rw [if_neg q]
      have ih := insO_filter T (x := x) (c := c) l h2
      rw [List.filter_cons, ih]
      simp only [List.filter_cons]
      cases ey : PySem.W.sameRank le c y <;> cases ex : PySem.W.sameRank le c x <;> simp
      unfold PySem.W.sameRank at ey ex
      rw [Bool.and_eq_true] at ey ex
      exact absurd (T.trans _ _ _ ex.2 ey.1) q
theorem isort_filter (T : PySem.W.TotalLe le) (c : α) : ∀ l : List α, (isort le l).filter (PySem.W.sameRank le c) = l.filter (PySem.W.sameRank le c)
  | [] => rfl
  | x :: l => by
    show (insO le x (isort le l)).filter _ = _
    rw [insO_filter T _ (isort_pw T l), List.filter_cons, List.filter_cons, isort_filter T c l]
theorem isort_eq (T : PySem.W.TotalLe le) (l : List α) : isort le l = l.mergeSort le := PySem.W.sort_unique T (isort_pw T l) fun c => isort_filter T c l
end
/-- a <= b, for sorting -/
def dLe (a b : D) : Bool := !dLt b a
def keyT (d : D) : List (Int ⊕ List Nat) := PySem.W.keyToks (toPy d)
theorem dLe_eq : dLe = PySem.W.sortLe (PyProof.Rows.listOrd PyProof.Rows.itemOrd) false keyT := rfl
theorem dLe_total : PySem.W.TotalLe dLe := by rw [dLe_eq]; exact PySem.W.sortLe_total _ _ _
def srtD (ds : List D) : List D := isort dLe ds
def isTup : D → Bool
  | .tup (_ :: _) => true
  | _ => false
def notTup : D → Bool
  | .tup _ => false
  | .non => false
  | _ => true
def canSort (ds : List D) : Bool := ds.all okD && ((ds.all fun d => ds.all fun e => PySem.W.alike (toPy d) (toPy e)) && (ds.all isTup || ds.all notTup))
def rSortD (K : PySem.W.Frag) (m : Md) : List V → Hp → VK → Prop := fun vs H Q => ∃ (a : Addr) (xs : List V) (ds : List D), vs = [V.ref a] ∧ SqL K H a xs ∧ RepL m H xs ds ∧ canSort ds = true ∧ ∀ ys p, RepL m H ys (srtD ds) → ys.length = xs.length → H p = none → Q (.ref p) (upd H p (.lst ys))
theorem repL_mem {m : Md} {H : Hp} : ∀ {vs : List V} {ds : List D}, RepL m H vs ds → ∀ p ∈ vs.zip ds, Rep m H p.1 p.2
  | [], ds, r, p, h => by simp at h
  | v :: vs, [], r, p, h => by simp at h
  | v :: vs, d :: ds, r, p, h => by
    cases r with
    | cons a b =>
      rw [List.zip_cons_cons] at h
      rcases List.mem_cons.mp h with rfl | h
      · exact a
      · exact repL_mem b p h
theorem repL_of {m : Md} {H : Hp} : ∀ {bs : List (V × D)}, (∀ p ∈ bs, Rep m H p.1 p.2) → RepL m H (bs.map (·.1)) (bs.map (·.2))
  | [], _ => .nil
  | b :: bs, h => .cons (h b List.mem_cons_self) (repL_of fun p hp => h p (List.mem_cons_of_mem _ hp))
theorem cr_sortD {X : Cx} {m : Md} (hm : m.K = X.K) (hv : X.A.units + 130 < cLine) : CallR X (.builtin "sorted") (rSortD X.K m) := by
  intro pins s σ H vs us Q I r h
  obtain ⟨a, xs, ds, rfl, hs, rx, hc, q⟩ := h
  obtain ⟨its, rv, hl, hz⟩ := I.list hs
  obtain ⟨u, rfl, ru⟩ := vals1 r
  obtain rfl : u = Value.ref a := ru
  unfold canSort at hc
  rw [Bool.and_eq_true, Bool.and_eq_true, Bool.or_eq_true] at hc
  obtain ⟨c1, c2, c3⟩ := hc
  have c1 := List.all_eq_true.mp c1
  have ok1 : ∀ d ∈ ds, okD d = true := c1
  have lenV : xs.length = ds.length := rx.len
  have lenU : xs.length = its.length := rv.length
  -- the values, with what they stand for
  have each : PySem.W.EachIs (fun (u : Value) (b : V × D) => RelV b.1 u ∧ b ∈ xs.zip ds) its (xs.zip ds) := by
    have go : ∀ {xs : List V} {its : List Value} {ds : List D}, Vals xs its → xs.length = ds.length → PySem.W.EachIs (fun (u : Value) (b : V × D) => RelV b.1 u) its (xs.zip ds) := by
      intro xs its ds r
      induction r generalizing ds with
      | nil => intro h; cases ds with
        | nil => exact .nil
        | cons => simp at h
      | cons h1 _ ih => intro h; cases ds with
        | nil => simp at h
        | cons d ds => exact .cons h1 (ih (by simpa using h))
    have e := go rv lenV
    refine PySem.W.EachIs.of_zip e.length fun p hp => ⟨e.zip p hp, ?_⟩
    exact (List.of_mem_zip hp).2
  have reads : ∀ (h' : Heap), (∀ b o, s.heap.get? b = some o → h'.get? b = some o) → ∀ (u : Value) (b : V × D), RelV b.1 u ∧ b ∈ xs.zip ds → ∃ as, Reads h' u (toPy b.2) as := fun h' kp u b ⟨h1, h2⟩ => by
    have rp := repL_mem rx b h2
    have hd : b.2 ∈ ds := (List.of_mem_zip h2).2
    have dp := rp.dp (SeqAt.canLay_of_shaped (ok1 _ hd))
    rw [hm] at dp
    obtain ⟨as, r1⟩ := Dp.reads I _ _ u dp h1
    exact ⟨as, Reads.keeps kp r1⟩
  have al : PySem.W.AllAlike (ds.map toPy) := fun d hd d' hd' => by
    obtain ⟨x, hx, rfl⟩ := List.mem_map.mp hd
    obtain ⟨y, hy, rfl⟩ := List.mem_map.mp hd'
    exact List.all_eq_true.mp (List.all_eq_true.mp c2 x hx) y hy
  have sb : PySem.W.Sortable (ds.map toPy) := by
    rcases c3 with c3 | c3
    · refine .inl fun d hd => ?_
      obtain ⟨x, hx, rfl⟩ := List.mem_map.mp hd
      have := List.all_eq_true.mp c3 x hx
      cases x with
      | tup l =>
        cases l with
        | nil => simp [isTup] at this
        | cons y l => exact ⟨_, _, rfl⟩
      | _ => simp [isTup] at this
    · refine .inr fun d hd => ?_
      obtain ⟨x, hx, rfl⟩ := List.mem_map.mp hd
      have := List.all_eq_true.mp c3 x hx
      cases x <;> simp [notTup, toPy] at this ⊢
  have dep : ∀ d ∈ ds.map toPy, X.A.in1.in1.units + d.depth < cLine := fun d hd => by
    obtain ⟨x, hx, rfl⟩ := List.mem_map.mp hd
    have := SeqAt.depth_of_shaped (ok1 x hx)
    show X.A.units + 1 + 1 + _ < _
    omega
  have hits : its.length ≤ sizeLine := by rw [← lenU]; exact hz
  have eds : (xs.zip ds).map (fun b => toPy b.2) = ds.map toPy := by
    rw [show (fun b : V × D => toPy b.2) = toPy ∘ Prod.snd from rfl, ← List.map_map, List.map_snd_zip (by omega)]
  have eachP : ∀ h' : Heap, (∀ b o, s.heap.get? b = some o → h'.get? b = some o) → PySem.W.EachIs (fun v d => ∃ as, Reads h' v d as) its (ds.map toPy) := fun h' kp => by
    rw [← eds]
    have go : ∀ {us : List Value} {bs : List (V × D)}, PySem.W.EachIs (fun (u : Value) (b : V × D) => RelV b.1 u ∧ b ∈ xs.zip ds) us bs → PySem.W.EachIs (fun v d => ∃ as, Reads h' v d as) us (bs.map fun b => toPy b.2) := by
      intro us bs e
      induction e with
      | nil => exact .nil
      | cons h1 _ ih => exact .cons (reads h' kp _ _ h1) ih
    exact go each
  have kp1 : ∀ b o, s.heap.get? b = some o → (PySem.W.sortingHeap (PySem.W.copyHeap s.heap its) (s.heap.objs.size + 1) its).get? b = some o := fun b o e => PySem.W.sorting_copy_old e
  have S := PySem.W.SortsAt.data (prog := X.prog) (w := X.w) (A := X.A.in1.in1) (s := { s with heap := PySem.W.sortingHeap (PySem.W.copyHeap s.heap its) (s.heap.objs.size + 1) its }) (eachP _ kp1) al sb dep
  refine PySem.W.sorted_vals hl.isList S hits ?_
  have keys : PySem.W.EachIs (fun (v : Value) (b : V × D) => (PySem.W.dataKind (PySem.W.sortingHeap (PySem.W.copyHeap s.heap its) (s.heap.objs.size + 1) its) (ds.map toPy)).keyOf v = some (keyT b.2)) its (xs.zip ds) := by
    refine PySem.W.EachIs.mono (fun u b hb => ?_) each
    obtain ⟨as, r1⟩ := reads _ kp1 u b hb
    exact PySem.W.dataKind_some al (List.mem_map.mpr ⟨b.2, (List.of_mem_zip hb.2).2, rfl⟩) r1
  have out := PySem.W.sortVals_each (κ := PySem.W.dataKind (PySem.W.sortingHeap (PySem.W.copyHeap s.heap its) (s.heap.objs.size + 1) its) (ds.map toPy)) (rev := false) (fun b : V × D => keyT b.2) each keys
  generalize PySem.W.sortVals _ false its its = res at out
  generalize hbs : (xs.zip ds).mergeSort _ = bs at out
  have pm : bs.Perm (xs.zip ds) := by rw [← hbs]; exact List.mergeSort_perm _ _
  have e2 : bs.map (·.2) = srtD ds := by
    rw [← hbs]
    unfold srtD
    rw [isort_eq dLe_total, dLe_eq]
    refine (PySem.W.sort_maps (s := PySem.W.sortLe (PyProof.Rows.listOrd PyProof.Rows.itemOrd) false keyT) (Prod.snd : V × D → D) (fun _ _ _ _ => rfl)).trans ?_
    rw [List.map_snd_zip (by omega)]
  have rr : RepL m H (bs.map (·.1)) (srtD ds) := by
    rw [← e2]
    exact repL_of fun p hp => repL_mem rx p (pm.mem_iff.mp hp)
  have hlb : (bs.map (·.1)).length = xs.length := by rw [List.length_map, pm.length_eq, List.length_zip, lenV, Nat.min_self]
  have vals : Vals (bs.map (·.1)) res := by
    have go : ∀ {us : List Value} {bs : List (V × D)}, PySem.W.EachIs (fun (u : Value) (b : V × D) => RelV b.1 u ∧ b ∈ xs.zip ds) us bs → Vals (bs.map (·.1)) us := by
      intro us bs e
      induction e with
      | nil => exact .nil
      | cons h1 _ ih => exact .cons h1.1 ih
    exact go out
  have hd : s.heap.objs.size ≤ s.heap.objs.size + 1 := Nat.le_succ _
  obtain ⟨n, hn⟩ := sortedAll_at s.heap its res.toArray
  exact ⟨.ref (s.heap.objs.size + 1), upd H (s.heap.objs.size + 1) (.lst (bs.map (·.1))), I.laid (t' := s.toks) (fun b o e => sortedAll_old e) hd ⟨by rw [hlb]; exact hz, res, n, vals, hn⟩, rfl, q _ _ rr hlb (I.hok.fresh hd)⟩
section
variable {m : Md}
def sortL : List D → Option (List D)
  | [.lst ds] => if canSort ds = true then some (srtD ds) else none
  | _ => none
theorem co_sortL : CallO m (rSortD m.K m) sortL := fun vs ds d H Q r e k => by
  unfold sortL at e
  split at e
  · rename_i xs
    split at e
    · rename_i c
      cases e
      obtain ⟨v, rfl, rv⟩ := one_of r
      cases rv with
      | lst q rl => exact ⟨_, _, xs, rfl, q.sq, rl, c, fun ys p ry _ hp => k p ys _ (Grow.new hp) hp upd_same (ry.st (Grow.new hp).stable)⟩
    · cases e
  · cases e
end
end DL
end
section
namespace DL
open PySem PySem.Spec L2 PySem.SeqAt
open PyProof.Rows hiding St

theorem callR_or {X : Cx} {f : Value} {r r' : List V → Hp → VK → Prop} (h : CallR X f r) (h' : CallR X f r') : CallR X f (fun xs H Q => r xs H Q ∨ r' xs H Q) := fun pins s σ H xs us Q I rv q => by
  rcases q with q | q
  · exact h pins s σ H xs us Q I rv q
  · exact h' pins s σ H xs us Q I rv q
section
variable {m : Md}
theorem CallD.or {r r' : List V → Hp → VK → Prop} {g g' : List D → Option D} (h : CallD m r g) (h' : CallD m r' g') : CallD m (fun xs H Q => r xs H Q ∨ r' xs H Q) (fun ds => (g ds).or (g' ds)) := fun vs ds d H Q rs e k => by
  have e : (g ds).or (g' ds) = some d := e
  cases q : g ds with
  | some z => rw [q] at e; cases e; exact .inl (h vs ds _ H Q rs q k)
  | none => rw [q] at e; exact .inr (h' vs ds d H Q rs e k)
theorem CallO.or {r r' : List V → Hp → VK → Prop} {g g' : List D → Option (List D)} (h : CallO m r g) (h' : CallO m r' g') : CallO m (fun xs H Q => r xs H Q ∨ r' xs H Q) (fun ds => (g ds).or (g' ds)) := fun vs ds d H Q rs e k => by
  have e : (g ds).or (g' ds) = some d := e
  cases q : g ds with
  | some z => rw [q] at e; cases e; exact .inl (h vs ds _ H Q rs q k)
  | none => rw [q] at e; exact .inr (h' vs ds d H Q rs e k)
end
def strsOf : List D → Option (List Str)
  | [] => some []
  | .str i :: r => (strsOf r).map (i :: ·)
  | _ => none
theorem strs_eq : ∀ {ds : List D} {ns : List Str}, strsOf ds = some ns → ds = ns.map D.str
  | [], ns, e => by cases e; rfl
  | d :: ds, ns, e => by
    cases d with
    | str i =>
      unfold strsOf at e
      cases q : strsOf ds with
      | none => rw [q] at e; cases e
      | some l => rw [q] at e; cases e; rw [strs_eq q]; rfl
    | _ => simp [strsOf] at e
def lenK : List D → Option D
  | [.dic ks _] => if ks.all isK = true then some (.int ks.length) else none
  | _ => none
theorem call_lenF {X : Cx} : CallR X (.builtin "len") (fun xs H Q => ∃ (a : Addr) (o : Obj) (kvs : List (Key × V)), xs = [V.ref a] ∧ H a = some (.frz o (.dK kvs)) ∧ Q (.int kvs.length) H) := by
  intro pins s σ H xs us Q I r ⟨a, o, kvs, e, ha, q⟩
  subst e
  obtain ⟨u, rfl, ru⟩ := vals1 r
  cases ru
  exact d_len I (.inr ⟨o, ha⟩) fun t s' I' => ⟨.int kvs.length, H, I', ⟨t, rfl⟩, q⟩
section
variable {m : Md}
theorem cd_lenK : CallD m (fun xs H Q => ∃ (a : Addr) (o : Obj) (kvs : List (Key × V)), xs = [V.ref a] ∧ H a = some (.frz o (.dK kvs)) ∧ Q (.int kvs.length) H) lenK := fun vs ds d H Q r e k => by
  unfold lenK at e
  split at e
  · obtain ⟨v, rfl, rv⟩ := one_of r
    rename_i ks vls
    by_cases c : ks.all isK = true
    rotate_left
    · rw [if_neg c] at e; cases e
    rw [if_pos c] at e
    cases e
    cases rv with
    | dicN q n e r1 r2 => exact (notK r1 n c).elim
    | dicK q rl =>
      refine ⟨_, _, _, rfl, q, ?_⟩
      rw [List.length_map] at k
      exact k _ H Grow.rfl (.int _)
  · cases e
def lenG (ds : List D) : Option D := (lenD ds).or (lenK ds)
def sumD : List D → Option D
  | [.lst xs] => (intsOf xs).map fun ns => .int ns.sum
  | _ => none
def tupC : List D → Option D
  | [.lst xs] => some (.tup xs)
  | [.tup xs] => some (.tup xs)
  | _ => none
theorem cd_tup : CallD m (fun xs H Q => ∃ p ys, xs = [.ref p] ∧ ((SqL m.K H p ys ∧ ∀ l, H l = none → Q (.ref l) (upd H l (.tup ys))) ∨ (SqT m.K H p ys ∧ Q (.ref p) H))) tupC := fun vs ds d H Q r e k => by
  unfold tupC at e
  split at e
  · obtain ⟨v, rfl, rv⟩ := one_of r
    cases e
    cases rv with
    | lst q rl =>
      exact ⟨_, _, rfl, .inl ⟨q.sq, fun l hl => k _ _ (Grow.new hl) (.tup (SqT.of upd_same) (rl.st (Grow.new hl).stable))⟩⟩
  · obtain ⟨v, rfl, rv⟩ := one_of r
    cases e
    cases rv with
    | tup q rl => exact ⟨_, _, rfl, .inr ⟨q, k _ H Grow.rfl (.tup q rl)⟩⟩
  · cases e
/-! ### d[k] -/
def ixK (x i : D) : Option D := match x with
  | .dic ks vs => if (isK i && ks.all isK) = true then dicGet i ks vs else none
  | _ => none
def ixG (x i : D) : Option D := (ixD x i).or (ixK x i)
def rIxG (K : PySem.W.Frag) : R2 := fun x y H Q => rIx K x y H Q ∨ ∃ a v, x = .ref a ∧ DGet H a y (some v) ∧ Q v H
theorem ix_G {X : Cx} (hv : X.A.units + 130 < cLine) : IxR X (rIxG X.K) := ix_seq.or (by
  intro value slice pins s σ H x y v u Q I rx ry ⟨a, w, ex, g, q⟩ hs
  subst ex
  obtain rfl : v = Value.ref a := rx
  exact tail_any (dict_typeIs I g) slot_dict_getitem.lookup (d_getItem (by omega) I g ry fun w' s' I' rw' => ⟨w, H, I', rw', q⟩) hs)
theorem opd_ixG : OpD m (rIxG m.K) ixG := fun x y dx dy d H Q rx ry e k => by
  unfold ixG at e
  cases q : ixD dx dy with
  | some z => rw [q] at e; cases e; exact .inl (opd_ix x y dx dy _ H Q rx ry q k)
  | none =>
    rw [q] at e
    have e : ixK dx dy = some d := e
    unfold ixK at e
    cases rx with
    | dicN q1 n e' r1 r2 =>
      rename_i a o kvs ks ds _
      have e : (if (isK dy && ks.all isK) = true then dicGet dy ks ds else none) = some d := e
      by_cases c : (isK dy && ks.all isK) = true
      · rw [Bool.and_eq_true] at c; exact (notK r1 n c.2).elim
      · rw [if_neg c] at e; cases e
    | dicK q1 r =>
      rename_i a o kvs ds _
      have e : (if (isK dy && (kvs.map fun p => keyD p.1).all isK) = true then dicGet dy (kvs.map fun p => keyD p.1) ds else none) = some d := e
      by_cases c : (isK dy && (kvs.map fun p => keyD p.1).all isK) = true
      · rw [if_pos c] at e
        rw [Bool.and_eq_true] at c
        obtain ⟨ky, rfl, rfl⟩ := key_rep ry c.1
        obtain ⟨v, h1, h2⟩ := (dget_rep ky r).1 d e
        exact .inr ⟨_, v, rfl, h1 ▸ dget_frz q1 ky, k v H Grow.rfl h2⟩
      · rw [if_neg c] at e; cases e
    | _ => cases e
end
/-! ### what is walked: list, tuple, dict, text -/
def itemsG : D → Option (List D)
  | .lst xs => some xs
  | .tup xs => some xs
  | .dic ks _ => if ks.all isK = true then some ks else none
  | .str z => some (z.cps.toList.map fun c => .str ⟨#[c]⟩)
  | _ => none
def itemsGM (f : M D) : M (List D) := bindM f fun d => liftM (itemsG d)
theorem iter_keys {m : Md} {H : Hp} {a : Addr} {o : Obj} {kvs : List (Key × V)} (h : H a = some (.frz o (.dK kvs))) : IterOk m H (Itk a o kvs) (kvs.map fun p => keyD p.1) where
  stop := fun i H' s hi => ⟨s _ _ h trivial, by simpa using hi⟩
  go := fun i H' s hi => ⟨s _ _ h trivial, by simpa using hi⟩
  yld := fun i H1 v H2 s hi q => by
    obtain ⟨e, k, w, h1, h2⟩ := q
    subst h2
    refine ⟨e, keyD k, by rw [List.getElem?_map, h1]; rfl, ?_⟩
    cases k with
    | inl i => exact .int i
    | inr x => exact .str x
theorem iter_text {m : Md} {H : Hp} {z : Str} : IterOk m H (Its z) (z.cps.toList.map fun c => D.str ⟨#[c]⟩) where
  stop := fun i H' s hi => show z.cps.size ≤ i by simpa using hi
  go := fun i H' s hi => show i < z.cps.size by simpa using hi
  yld := fun i H1 v H2 s hi q => by
    obtain ⟨e, c, h1, h2⟩ := q
    subst h2
    refine ⟨e, .str ⟨#[c]⟩, ?_, .str _⟩
    rw [List.getElem?_map, Array.getElem?_toList, h1]; rfl
section
variable {X : Cx} {G : Gh} {W : WX}
theorem di_gen {tg l : Expr} {f : M D} (hK : G.m = ⟨X.K, X.mg, X.w⟩) (h : DE X G W l f) : DI X G W tg l (itemsGM f) := ⟨fun pins s σ H R I ⟨ρ, k, q⟩ => by
  have eK : G.m.K = X.K := by rw [hK]
  cases e : f ρ with
  | ok d ρ1 =>
    have same : ∀ (xs : List D), itemsG d = some xs → (∀ H1, Stable H H1 → StOk G σ H1 ρ1 → ∀ J, IterOk G.m H1 J xs → R J H1) := fun xs hx H1 s1 k1 J io => by
      have z : itemsGM f ρ = .ok xs ρ1 := by unfold itemsGM bindM; rw [e]; simp only [hx]; rfl
      rw [z] at q
      exact q H1 s1 k1 J io
    have dd : ∀ {Q' : VK}, (∀ v H1, Stable H H1 → StOk G σ H1 ρ1 → Rep G.m H1 v d → Q' v H1) → dT G W f σ H Q' := fun {Q'} hQ => ⟨ρ, k, by rw [e]; exact fun H1 s1 k1 v r => hQ v H1 s1 k1 r⟩
    cases d with
    | lst xs =>
      refine (di_any (tg := tg) hK h).run pins s σ H R I ⟨ρ, k, ?_⟩
      have z : itemsM f ρ = .ok xs ρ1 := by unfold itemsM bindM; rw [e]; rfl
      rw [z]; exact same xs rfl
    | tup xs =>
      refine (di_any (tg := tg) hK h).run pins s σ H R I ⟨ρ, k, ?_⟩
      have z : itemsM f ρ = .ok xs ρ1 := by unfold itemsM bindM; rw [e]; rfl
      rw [z]; exact same xs rfl
    | dic ks vs =>
      refine (pi_keys (tg := tg) h).run pins s σ H R I (dd fun v H1 s1 k1 r => ?_)
      by_cases c : ks.all isK = true
      rotate_left
      · have hn : itemsG (.dic ks vs) = none := by show (if ks.all isK = true then some ks else none) = none; rw [if_neg c]
        have z : itemsGM f ρ = .stuck := by unfold itemsGM bindM; rw [e]; simp only [hn]; rfl
        rw [z] at q; exact q.elim
      have rfl' : itemsG (.dic ks vs) = some ks := by show (if ks.all isK = true then some ks else none) = some ks; rw [if_pos c]
      cases r with
      | dicN q1 n e1 r1 r2 => exact (notK r1 n c).elim
      | dicK q1 rl => exact ⟨_, _, rfl, .inl ⟨_, q1, same _ rfl' H1 s1 k1 _ (iter_keys q1)⟩⟩
    | str z =>
      refine (pi_str (tg := tg) h).run pins s σ H R I (dd fun v H1 s1 k1 r => ?_)
      cases r
      exact ⟨z, rfl, same _ rfl H1 s1 k1 _ iter_text⟩
    | non => have z : itemsGM f ρ = .stuck := by unfold itemsGM bindM; rw [e]; rfl
             rw [z] at q; exact q.elim
    | bl b => have z : itemsGM f ρ = .stuck := by unfold itemsGM bindM; rw [e]; rfl
              rw [z] at q; exact q.elim
    | int i => have z : itemsGM f ρ = .stuck := by unfold itemsGM bindM; rw [e]; rfl
               rw [z] at q; exact q.elim
    | ins a b c => have z : itemsGM f ρ = .stuck := by unfold itemsGM bindM; rw [e]; rfl
                   rw [z] at q; exact q.elim
  | exc c ρ1 =>
    refine (di_any (tg := tg) hK h).run pins s σ H R I ⟨ρ, k, ?_⟩
    have z : itemsGM f ρ = .exc c ρ1 := by unfold itemsGM bindM; rw [e]
    have z2 : itemsM f ρ = .exc c ρ1 := by unfold itemsM bindM; rw [e]
    rw [z] at q; rw [z2]; exact q
  | stuck =>
    have z : itemsGM f ρ = .stuck := by unfold itemsGM bindM; rw [e]
    rw [z] at q; exact q.elim⟩
end
end DL
end
section
namespace DLS
open PySem PySem.Spec PyProof.Rows L2 DL
/-! ### keys as data -/
mutual
def keyN : D → Option NestedKey
  | .int i => some (.num i)
  | .str x => some (.text x)
  | .tup ds => (keyNs ds).map .tup
  | _ => none
def keyNs : List D → Option (List NestedKey)
  | [] => some []
  | d :: ds => (keyN d).bind fun k => (keyNs ds).map (k :: ·)
end
section
variable {m : Md} {H : Hp} {X : Cx} {pins : List (Addr × Obj)} {σ : L2.St} {s : Shared}
mutual
theorem keyN_pu : ∀ {d : D} {k : NestedKey}, keyN d = some k → intK k = true
  | .int i, k, h => by simp [keyN] at h; subst h; rfl
  | .tup ds, k, h => by
    simp only [keyN, Option.map_eq_some_iff] at h
    obtain ⟨ks, h1, rfl⟩ := h
    rw [intK]; exact keyNs_pu h1
  | .non, k, h => by simp [keyN] at h
  | .bl _, k, h => by simp [keyN] at h
  | .str x, k, h => by simp [keyN] at h; subst h; rfl
  | .lst _, k, h => by simp [keyN] at h
  | .dic _ _, k, h => by simp [keyN] at h
  | .ins _ _ _, k, h => by simp [keyN] at h
theorem keyNs_pu : ∀ {ds : List D} {ks : List NestedKey}, keyNs ds = some ks → intKs ks = true
  | [], ks, h => by simp [keyNs] at h; subst h; rfl
  | d :: ds, ks, h => by
    simp only [keyNs, Option.bind_eq_some_iff, Option.map_eq_some_iff] at h
    obtain ⟨k, h1, ks', h2, rfl⟩ := h
    rw [intKs, keyN_pu h1, keyNs_pu h2]; rfl
end
mutual
theorem keyN_inj : ∀ {d e : D} {k : NestedKey}, keyN d = some k → keyN e = some k → d = e
  | .int i, e, k, h, h' => by
    simp [keyN] at h; subst h
    cases e with
    | int j => simp [keyN] at h'; rw [h']
    | tup es =>
      simp only [keyN, Option.map_eq_some_iff] at h'
      obtain ⟨_, _, h'⟩ := h'
      cases h'
    | _ => simp [keyN] at h'
  | .str i, e, k, h, h' => by
    simp [keyN] at h; subst h
    cases e with
    | str j => simp [keyN] at h'; rw [h']
    | tup es =>
      simp only [keyN, Option.map_eq_some_iff] at h'
      obtain ⟨_, _, h'⟩ := h'
      cases h'
    | _ => simp [keyN] at h'
  | .tup ds, e, k, h, h' => by
    simp only [keyN, Option.map_eq_some_iff] at h
    obtain ⟨ks, h1, rfl⟩ := h
    cases e with
    | int j => simp [keyN] at h'
    | tup es =>
      simp only [keyN, Option.map_eq_some_iff] at h'
      obtain ⟨ks', h2, h3⟩ := h'
      injection h3 with h3
      subst h3
      rw [keyNs_inj h1 h2]
    | _ => simp [keyN] at h'
  | .non, _, k, h, _ => by simp [keyN] at h
  | .bl _, _, k, h, _ => by simp [keyN] at h
  | .lst _, _, k, h, _ => by simp [keyN] at h
  | .dic _ _, _, k, h, _ => by simp [keyN] at h
  | .ins _ _ _, _, k, h, _ => by simp [keyN] at h
theorem keyNs_inj : ∀ {ds es : List D} {ks : List NestedKey}, keyNs ds = some ks → keyNs es = some ks → ds = es
  | [], es, ks, h, h' => by
    simp [keyNs] at h; subst h
    cases es with
    | nil => rfl
    | cons e es =>
      simp only [keyNs, Option.bind_eq_some_iff, Option.map_eq_some_iff] at h'
      obtain ⟨_, _, _, _, h'⟩ := h'
      cases h'
  | d :: ds, es, ks, h, h' => by
    simp only [keyNs, Option.bind_eq_some_iff, Option.map_eq_some_iff] at h
    obtain ⟨k, h1, ks', h2, rfl⟩ := h
    cases es with
    | nil => simp [keyNs] at h'
    | cons e es =>
      simp only [keyNs, Option.bind_eq_some_iff, Option.map_eq_some_iff] at h'
      obtain ⟨k', h3, ks3, h4, h5⟩ := h'
      injection h5 with h5 h6
      subst h5 h6
      rw [keyN_inj h1 h3, keyNs_inj h2 h4]
end
mutual
theorem key_is (I : Inv X pins σ H s) (hm : m.K = X.K) : ∀ {d : D} {v : V} {u : Value} {k : NestedKey}, Rep m H v d → keyN d = some k → L2.RelV v u → NestedIs s.heap k u
  | .int i, v, u, k, r, h, ru => by
    simp [keyN] at h; subst h
    cases r
    obtain ⟨t, rfl⟩ := ru
    exact .int _ _
  | .str x, v, u, k, r, h, ru => by
    simp [keyN] at h; subst h
    cases r
    obtain ⟨t, rfl⟩ := ru
    exact .text _ _
  | .tup ds, v, u, k, r, h, ru => by
    simp only [keyN, Option.map_eq_some_iff] at h
    obtain ⟨ks, h1, rfl⟩ := h
    cases r with
    | tup hq rl =>
      rw [hm] at hq
      obtain ⟨its, rv, ⟨o, ho, hc, n, hd⟩, _⟩ := I.tuple hq
      cases ru
      exact .tup ho hc hd (by simpa using keys_is I hm rl h1 rv)
  | .non, _, _, k, _, h, _ => by simp [keyN] at h
  | .bl _, _, _, k, _, h, _ => by simp [keyN] at h
  | .lst _, _, _, k, _, h, _ => by simp [keyN] at h
  | .dic _ _, _, _, k, _, h, _ => by simp [keyN] at h
  | .ins _ _ _, _, _, k, _, h, _ => by simp [keyN] at h
theorem keys_is (I : Inv X pins σ H s) (hm : m.K = X.K) : ∀ {ds : List D} {vs : List V} {us : List Value} {ks : List NestedKey}, RepL m H vs ds → keyNs ds = some ks → Vals vs us → NestedAll s.heap ks us
  | [], _, _, ks, r, h, ru => by
    simp [keyNs] at h; subst h
    cases r
    cases ru
    exact .nil
  | d :: ds, _, _, ks, r, h, ru => by
    simp only [keyNs, Option.bind_eq_some_iff, Option.map_eq_some_iff] at h
    obtain ⟨k, h1, ks', h2, rfl⟩ := h
    cases r with
    | cons a b =>
      cases ru with
      | cons c e => exact .cons (key_is I hm a h1 c) (keys_is I hm b h2 e)
end
end
/-- the data of a list without the later equal ones -/
def nubK (seen : List NestedKey) : List D → List D
  | [] => []
  | d :: ds => match keyN d with
    | some k => if seen.contains k then nubK seen ds else d :: nubK (k :: seen) ds
    | none => nubK seen ds
/-- tuples of whole numbers, nested no deeper than 8, fewer than 64 different ones -/
def isKey (d : D) : Bool := match d, keyN d with
  | .tup _, some k => decide (k.depth ≤ 8)
  | _, _ => false
def setOk (ds : List D) : Bool := ds.all isKey && decide ((nubK [] ds).length < 77)
instance : LawfulBEq NestedKey where
  eq_of_beq h := of_decide_eq_true h
  rfl := decide_eq_true rfl
theorem isKey_inv {d : D} (h : isKey d = true) : ∃ ds k, d = .tup ds ∧ keyN d = some k ∧ k.depth ≤ 8 := by
  unfold isKey at h
  cases d with
  | tup ds =>
    cases q : keyN (.tup ds) with
    | none => rw [q] at h; simp at h
    | some k => rw [q] at h; simp at h; exact ⟨ds, k, rfl, rfl, h⟩
  | _ => simp at h
theorem nub_mem {d : D} : ∀ {ds : List D} {seen : List NestedKey}, d ∈ nubK seen ds → d ∈ ds
  | [], _, h => by simp [nubK] at h
  | e :: ds, seen, h => by
    unfold nubK at h
    split at h
    · split at h
      · exact List.mem_cons_of_mem _ (nub_mem h)
      · rcases List.mem_cons.mp h with rfl | h
        · exact List.mem_cons_self
        · exact List.mem_cons_of_mem _ (nub_mem h)
    · exact List.mem_cons_of_mem _ (nub_mem h)
theorem nub_key {k : NestedKey} : ∀ {ds : List D} {seen : List NestedKey}, (∃ d ∈ ds, keyN d = some k) → k ∈ seen ∨ ∃ d ∈ nubK seen ds, keyN d = some k
  | [], _, ⟨d, h, _⟩ => absurd h List.not_mem_nil
  | e :: ds, seen, ⟨d, h, hk⟩ => by
    unfold nubK
    cases q : keyN e with
    | none =>
      rcases List.mem_cons.mp h with rfl | h
      · rw [q] at hk; cases hk
      · exact nub_key ⟨d, h, hk⟩
    | some ke =>
      dsimp only
      by_cases c : seen.contains ke = true
      · rw [if_pos c]
        rcases List.mem_cons.mp h with rfl | h
        · rw [q] at hk; cases hk
          exact .inl (by simpa using c)
        · exact nub_key ⟨d, h, hk⟩
      · rw [if_neg c]
        rcases List.mem_cons.mp h with rfl | h
        · exact .inr ⟨d, List.mem_cons_self, hk⟩
        · rcases nub_key (seen := ke :: seen) ⟨d, h, hk⟩ with z | ⟨d2, h2, hk2⟩
          · rcases List.mem_cons.mp z with rfl | z
            · exact .inr ⟨e, List.mem_cons_self, q⟩
            · exact .inl z
          · exact .inr ⟨d2, List.mem_cons_of_mem _ h2, hk2⟩
theorem nub_dif : ∀ {ds : List D} {seen : List NestedKey}, (nubK seen ds).Nodup ∧ ∀ d ∈ nubK seen ds, ∀ k, keyN d = some k → k ∉ seen
  | [], _ => ⟨List.nodup_nil, fun d h => absurd h List.not_mem_nil⟩
  | e :: ds, seen => by
    unfold nubK
    cases q : keyN e with
    | none => exact nub_dif
    | some ke =>
      dsimp only
      by_cases c : seen.contains ke = true
      · rw [if_pos c]; exact nub_dif
      · rw [if_neg c]
        obtain ⟨h1, h2⟩ := nub_dif (ds := ds) (seen := ke :: seen)
        refine ⟨List.nodup_cons.mpr ⟨fun z => ?_, h1⟩, fun d hd k hk => ?_⟩
        · exact h2 e z ke q List.mem_cons_self
        · rcases List.mem_cons.mp hd with rfl | hd
          · rw [q] at hk; cases hk
            simpa using c
          · exact fun z => h2 d hd k hk (List.mem_cons_of_mem _ z)
theorem sub_len {α : Type} [DecidableEq α] : ∀ {M N : List α}, M.Nodup → (∀ x ∈ M, x ∈ N) → M.length ≤ N.length
  | [], _, _, _ => Nat.zero_le _
  | x :: M, N, h, hs => by
    obtain ⟨h1, h2⟩ := List.nodup_cons.mp h
    have hx := hs x List.mem_cons_self
    have ih := sub_len (N := N.erase x) h2 fun y hy => (List.mem_erase_of_ne (fun z => h1 (by rw [← z]; exact hy))).mpr (hs y (List.mem_cons_of_mem _ hy))
    rw [List.length_erase_of_mem hx] at ih
    have : 0 < N.length := List.length_pos_of_mem hx
    simp only [List.length_cons]
    omega
/-- the set at a, as an abstract object -/
def SetN (w : World) (a : Addr) (L : List Ent) : HO := .ext fun h => ∃ es ep t, (∃ o, h.get? a = some o ∧ o.ExactSet ∧ o.data = .set es ep t) ∧ es.toList = rws w L ∧ TabOk t (L.map fun e => hk w e.2) ∧ (L.map (·.2)).Nodup ∧
  (w.params.followText "set-order" = true ∨ t.led = true) ∧ L.length * 5 < t.mask * 3 ∧ L.length < 77
theorem setN_ok {P : Program} {w : World} {H : Hp} {h : Heap} {a : Addr} {L : List Ent} {es : Array (Int × Value)} {ep : Nat} {t : SetTable} (B : Tb w h a L es ep t) : ObjOk P w H h a (SetN w a L) := by
  obtain ⟨o, ho, r⟩ := B.at_
  refine ⟨⟨es, ep, t, ⟨o, ho, r⟩, B.rw_, B.tab, B.dif, B.led, B.spc, B.few⟩, ⟨o, ho⟩, fun h1 h2 ⟨es', ep', t', ⟨o', ho', r'⟩, q⟩ kp => ⟨es', ep', t', ⟨o', kp o' ho', r'⟩, q⟩⟩
/-- an entry that stands for data -/
def EntOk (m : Md) (H : Hp) (e : Ent) (d : D) : Prop := Rep m H (.ref e.1) d ∧ keyN d = some e.2 ∧ e.2.depth ≤ 8
section
variable {m : Md} {H : Hp} {X : Cx} {pins : List (Addr × Obj)} {σ : L2.St} {s : Shared}
theorem EntOk.el {e : Ent} {d : D} (h : EntOk m H e d) (I : Inv X pins σ H s) (hm : m.K = X.K) : El s.heap e.2 e.1 := ⟨key_is I hm h.1 h.2.1 rfl, h.2.2, keyN_pu h.2.1⟩
/-- set(xs) -/
def rSetN (m : Md) (w : World) : List V → Hp → VK → Prop := fun vs H Q => ∃ (a : Addr) (xs : List V) (ds : List D), vs = [V.ref a] ∧ SqL m.K H a xs ∧ RepL m H xs ds ∧ setOk ds = true ∧
  ∀ l L, H l = none → (∀ e ∈ L, ∃ d ∈ ds, EntOk m H e d) → (∀ d ∈ ds, ∃ e ∈ L, keyN d = some e.2) → (L.map (·.2)).Nodup → Q (.ref l) (upd H l (SetN w l L))
theorem ents_of : ∀ {xs : List V} {ds : List D}, RepL m H xs ds → ds.all isKey = true → ∃ ks : List Ent, xs = ks.map (fun e => V.ref e.1) ∧ ds.length = ks.length ∧ ∀ (i : Nat) (e : Ent), ks[i]? = some e → ∃ d, ds[i]? = some d ∧ EntOk m H e d
  | _, [], r, _ => by cases r; exact ⟨[], rfl, rfl, fun i e h => by simp at h⟩
  | _, d :: ds, r, h => by
    cases r with
    | cons a b =>
      rw [List.all_cons, Bool.and_eq_true] at h
      obtain ⟨ks, e1, e2, e3⟩ := ents_of b h.2
      obtain ⟨l, k, rfl, h2, h3⟩ := isKey_inv h.1
      cases a with
      | tup hq rl =>
        rename_i ad vs
        refine ⟨(ad, k) :: ks, by rw [e1]; rfl, by simp [e2], fun i e he => ?_⟩
        cases i with
        | zero => simp at he; subst he; exact ⟨_, rfl, .tup hq rl, h2, h3⟩
        | succ i => simpa using e3 i e (by simpa using he)
theorem cr_setN (hm : m.K = X.K) (hc : X.calm = true) (hv : X.A.units + 130 < cLine) : CallR X (.type "set") (rSetN m X.w) := by
  intro pins s σ H xs us Q I r ⟨l, ws, ds, ex, hl, rl, ok, q⟩
  subst ex
  rw [hm] at hl
  unfold setOk at ok
  rw [Bool.and_eq_true, decide_eq_true_eq] at ok
  obtain ⟨ks, ek, el, ee⟩ := ents_of rl ok.1
  subst ek
  rw [Vals.ref1 r]
  obtain ⟨its, rv, pl, hz⟩ := I.list hl
  have hit : its = ks.map fun e => Value.ref e.1 := by
    clear ee el rl hz hl pl
    induction ks generalizing its with
    | nil => cases rv; rfl
    | cons e ks ih => cases rv with
      | cons a b => cases a; rw [ih _ b]; rfl
  have mem : ∀ e ∈ ks, ∃ d ∈ ds, EntOk m H e d := fun e he => by
    obtain ⟨i, hi, ei⟩ := List.getElem_of_mem he
    obtain ⟨d, hd, z⟩ := ee i e (by rw [List.getElem?_eq_getElem hi, ei])
    exact ⟨d, List.mem_of_getElem? hd, z⟩
  have few : Few ks := fun M nd sub => by
    have h1 : ∀ k ∈ M, k ∈ (nubK [] ds).filterMap keyN := fun k hk => by
      obtain ⟨e, he, rfl⟩ := List.mem_map.mp (sub k hk)
      obtain ⟨d, hd, _, z, _⟩ := mem e he
      rcases nub_key (seen := []) ⟨d, hd, z⟩ with y | ⟨d2, h2, z2⟩
      · exact absurd y List.not_mem_nil
      · exact List.mem_filterMap.mpr ⟨d2, h2, z2⟩
    have := sub_len nd h1
    have := List.length_filterMap_le keyN (nubK [] ds)
    omega
  have hn : H s.heap.objs.size = none := I.hok.fresh (Nat.le_refl _)
  refine make_set (P := X.prog) (w := X.w) ks (I.ok.hd hc) pl.isList (by simpa using hit) (fun e he => by obtain ⟨d, _, z⟩ := mem e he; exact z.el I hm) few (by omega) fun h' tk L es ep t B u kp => ?_
  refine ⟨.ref s.heap.objs.size, upd H s.heap.objs.size (SetN X.w s.heap.objs.size L), I.laid (t' := tk) kp (Nat.le_refl _) (setN_ok B), rfl, q _ L hn (fun e he => mem e (List.mem_of_mem_take (u.sub e he))) (fun d hd => ?_) B.dif⟩
  obtain ⟨i, hi, ei⟩ := List.getElem_of_mem hd
  obtain ⟨e, he⟩ : ∃ e, ks[i]? = some e := ⟨_, List.getElem?_eq_getElem (by rw [← el]; exact hi)⟩
  obtain ⟨d', hd', _, z, _⟩ := ee i e he
  rw [List.getElem?_eq_getElem hi, ei] at hd'
  cases hd'
  obtain ⟨e2, h2, z2⟩ := List.mem_map.mp (u.all e (by rw [List.take_length]; exact List.mem_of_getElem? he))
  exact ⟨e2, h2, by rw [z, z2]⟩
end
end DLS
end
section
namespace DLS
open PySem PySem.Spec PyProof.Rows L2 DL
mutual
def dOf : NestedKey → D
  | .num i => .int i
  | .tup ks => .tup (dOfs ks)
  | .none => .non
  | .text x => .str x
def dOfs : List NestedKey → List D
  | [] => []
  | k :: ks => dOf k :: dOfs ks
end
mutual
theorem dOf_key : ∀ {d : D} {k : NestedKey}, keyN d = some k → dOf k = d
  | .int i, k, h => by simp [keyN] at h; subst h; rfl
  | .tup ds, k, h => by
    simp only [keyN, Option.map_eq_some_iff] at h
    obtain ⟨ks, h1, rfl⟩ := h
    rw [dOf, dOfs_key h1]
  | .non, k, h => by simp [keyN] at h
  | .bl _, k, h => by simp [keyN] at h
  | .str x, k, h => by simp [keyN] at h; subst h; rfl
  | .lst _, k, h => by simp [keyN] at h
  | .dic _ _, k, h => by simp [keyN] at h
  | .ins _ _ _, k, h => by simp [keyN] at h
theorem dOfs_key : ∀ {ds : List D} {ks : List NestedKey}, keyNs ds = some ks → dOfs ks = ds
  | [], ks, h => by simp [keyNs] at h; subst h; rfl
  | d :: ds, ks, h => by
    simp only [keyNs, Option.bind_eq_some_iff, Option.map_eq_some_iff] at h
    obtain ⟨k, h1, ks', h2, rfl⟩ := h
    rw [dOfs, dOf_key h1, dOfs_key h2]
end
mutual
theorem eqv_key : ∀ {d e : D} {k : NestedKey}, keyN d = some k → PyData.eqv (toPy d) (toPy e) = true → (keyN e).isSome = true → d = e
  | .int i, e, k, _, q, he => by
    cases e <;> simp [keyN] at he
    · simp [toPy, PyData.eqv] at q; rw [q]
    · simp [toPy, PyData.eqv] at q
    · simp [toPy, PyData.eqv] at q
  | .str i, e, k, _, q, he => by
    cases e <;> simp [keyN] at he
    · simp [toPy, PyData.eqv] at q
    · simp [toPy, PyData.eqv] at q; rw [q]
    · simp [toPy, PyData.eqv] at q
  | .tup ds, e, k, h, q, he => by
    simp only [keyN, Option.map_eq_some_iff] at h
    obtain ⟨ks, h1, _⟩ := h
    cases e with
    | tup es =>
      simp only [toPy, PyData.eqv] at q
      simp only [keyN, Option.isSome_map] at he
      rw [eqv_keys h1 q he]
    | int j => simp [toPy, PyData.eqv] at q
    | str j => simp [toPy, PyData.eqv] at q
    | _ => simp [keyN] at he
  | .non, _, k, h, _, _ => by simp [keyN] at h
  | .bl _, _, k, h, _, _ => by simp [keyN] at h
  | .lst _, _, k, h, _, _ => by simp [keyN] at h
  | .dic _ _, _, k, h, _, _ => by simp [keyN] at h
  | .ins _ _ _, _, k, h, _, _ => by simp [keyN] at h
theorem eqv_keys : ∀ {ds es : List D} {ks : List NestedKey}, keyNs ds = some ks → PyData.eqvAll (toPyL ds) (toPyL es) = true → (keyNs es).isSome = true → ds = es
  | [], es, ks, _, q, _ => by
    cases es with
    | nil => rfl
    | cons e es => simp [toPyL, PyData.eqvAll] at q
  | d :: ds, es, ks, h, q, he => by
    simp only [keyNs, Option.bind_eq_some_iff, Option.map_eq_some_iff] at h
    obtain ⟨k, h1, ks', h2, _⟩ := h
    cases es with
    | nil => simp [toPyL, PyData.eqvAll] at q
    | cons e es =>
      simp only [toPyL, PyData.eqvAll, Bool.and_eq_true] at q
      have he2 : (keyN e).isSome = true ∧ (keyNs es).isSome = true := by
        simp only [keyNs] at he
        cases q1 : keyN e with
        | none => rw [q1] at he; simp at he
        | some _ => rw [q1] at he; simp at he; exact ⟨rfl, by simpa using he⟩
      rw [eqv_key h1 q.1 he2.1, eqv_keys h2 q.2 he2.2]
end
/-- neither below the other: the same data -/
theorem dLe_anti {d e : D} {k : NestedKey} (h : keyN d = some k) (he : (keyN e).isSome = true) (al : PySem.W.alike (toPy d) (toPy e) = true) (h1 : dLe d e = true) (h2 : dLe e d = true) : d = e := by
  have a1 : lexLt itemOrd (keyT e) (keyT d) = false := by simpa [dLe, dLt, PySem.W.dataLt, keyT] using h1
  have a2 : lexLt itemOrd (keyT d) (keyT e) = false := by simpa [dLe, dLt, PySem.W.dataLt, keyT] using h2
  have eq : keyT d = keyT e := (listOrd itemOrd).total _ _ a2 a1
  refine eqv_key h ?_ he
  cases q : PyData.eqv (toPy d) (toPy e) with
  | true => rfl
  | false =>
    have z := (PySem.W.toks_eqv (toPy d) (toPy e) al).2 q [] [.inl 0]
    have eq2 : PySem.W.keyToks (toPy d) = PySem.W.keyToks (toPy e) := eq
    rw [eq2, PySem.W.lex_pre] at z
    have y := (listOrd itemOrd).irrefl (PySem.W.keyToks (toPy e))
    have y : lexLt itemOrd (PySem.W.keyToks (toPy e)) (PySem.W.keyToks (toPy e)) = false := y
    rw [y] at z
    exact absurd z (by simp [PyProof.Rows.lexLt])
section
variable {m : Md} {H : Hp} {X : Cx}
/-- sorted(a set) -/
def rSortN (m : Md) (w : World) : List V → Hp → VK → Prop := fun vs H Q => ∃ (a : Addr) (L : List Ent) (ds : List D), vs = [V.ref a] ∧ H a = some (SetN w a L) ∧ (∀ e ∈ L, ∃ d ∈ ds, EntOk m H e d) ∧ (∀ d ∈ ds, ∃ e ∈ L, keyN d = some e.2) ∧ (L.map (·.2)).Nodup ∧ setOk ds = true ∧ canSort ds = true ∧
  ∀ ys p, RepL m H ys (srtD (nubK [] ds)) → H p = none → Q (.ref p) (upd H p (.lst ys))
theorem cr_sortN (hm : m.K = X.K) (hc : X.calm = true) (hv : X.A.units + 130 < cLine) : CallR X (.builtin "sorted") (rSortN m X.w) := by
  intro pins s σ H xs us Q I r ⟨a, L, ds, ex, ha, sub, cov, dif, ok, cs, q⟩
  subst ex
  rw [Vals.ref1 r]
  obtain ⟨⟨es, ep, t, ⟨o, ho, hex, hd⟩, hr, tab, _, led, spc, few⟩, _⟩ := (show ObjOk X.prog X.w H s.heap a (SetN X.w a L) from I.hok a _ ha)
  have ent : ∀ e ∈ L, EntOk m H e (dOf e.2) := fun e he => by
    obtain ⟨d, _, z⟩ := sub e he
    rw [dOf_key z.2.1]; exact z
  have els : ∀ e ∈ L, El s.heap e.2 e.1 := fun e he => (ent e he).el I hm
  have B : Tb X.w s.heap a L es ep t := ⟨⟨o, ho, hex, hd⟩, hr, tab, dif, els, led, spc, few⟩
  unfold canSort at cs
  rw [Bool.and_eq_true, Bool.and_eq_true, Bool.or_eq_true] at cs
  obtain ⟨c1, c2, c3⟩ := cs
  unfold setOk at ok
  rw [Bool.and_eq_true, decide_eq_true_eq] at ok
  have inds : ∀ e ∈ L, dOf e.2 ∈ ds := fun e he => by
    obtain ⟨d, hd, z⟩ := sub e he
    rw [dOf_key z.2.1]; exact hd
  have alk : ∀ d ∈ ds, ∀ d' ∈ ds, PySem.W.alike (toPy d) (toPy d') = true := fun d hd d' hd' => List.all_eq_true.mp (List.all_eq_true.mp c2 d hd) d' hd'
  have one : ∀ e ∈ L, ∀ e' ∈ L, e.1 = e'.1 → e.2 = e'.2 := fun e he e' he' z => by
    have x1 := (els e he).is
    rw [z] at x1
    exact NestedIs.inj _ _ _ x1 (els e' he').is
  -- which entry a value stands for
  have hx : ∀ u : Value, ∃ e : Ent, (∃ e' ∈ L, u = Value.ref e'.1) → e ∈ L ∧ u = Value.ref e.1 := fun u => by
    by_cases c : ∃ e' ∈ L, u = Value.ref e'.1
    · obtain ⟨e, he, z⟩ := c
      exact ⟨e, fun _ => ⟨he, z⟩⟩
    · exact ⟨(0, .none), fun z => absurd z c⟩
  obtain ⟨ch, hch⟩ : ∃ ch : Value → Ent, ∀ u, (∃ e' ∈ L, u = Value.ref e'.1) → ch u ∈ L ∧ u = Value.ref (ch u).1 := ⟨fun u => (hx u).choose, fun u => (hx u).choose_spec⟩
  refine Calls.call_function_entry kind_sorted plain_sorted entry_sorted (args_sorted1 _) ?_
  unfold Builtin.«sorted»
  refine wpAny_bind (m := checkCount "sorted" 1 1 _) (wpAny_pure ?_)
  refine wpAny_bind (collect_set (A := X.A.in1) (I.ok.hd hc) ⟨o, ho, hex.1, hd⟩ B.fits (by unfold scanBound; have := B.sz; omega) tab.ris led fun s1 vs k1 hz g1 o1 pm => ?_)
  have e1 : es.toList.map (·.2) = L.map fun e => Value.ref e.1 := by rw [hr]; unfold rws; rw [List.map_map]; rfl
  rw [e1] at pm
  have vin : ∀ v ∈ vs, ∃ e' ∈ L, v = Value.ref e'.1 := fun v hv => by
    obtain ⟨e, he, z⟩ := List.mem_map.mp (pm.mem_iff.mp hv)
    exact ⟨e, he, z.symm⟩
  have vlen : vs.length < 77 := by rw [pm.length_eq, List.length_map]; exact few
  refine wpAny_bind (wpAny_newList ?_ (by rw [sizeLine_eq]; omega))
  have hoL : (s1.heap.push (seqObj "list" vs.toArray 0)).get? s1.heap.objs.size = some (seqObj "list" vs.toArray 0) := Heap.get?_push_size _ rfl
  have kp2 : ∀ b u, s.heap.get? b = some u → (PySem.W.sortingHeap (s1.heap.push (seqObj "list" vs.toArray 0)) s1.heap.objs.size vs).get? b = some u := fun b u z => by
    have y := k1 b u z
    exact PySem.W.sortingHeap_old (Nat.ne_of_lt (Heap.lt_size y)) (Heap.get?_push_of_some _ y)
  have reads : ∀ v ∈ vs, ∃ as, Reads (PySem.W.sortingHeap (s1.heap.push (seqObj "list" vs.toArray 0)) s1.heap.objs.size vs) v (toPy (dOf (ch v).2)) as := fun v hv => by
    obtain ⟨z1, z2⟩ := hch v (vin v hv)
    have okd := List.all_eq_true.mp c1 _ (inds _ z1)
    have dp := (ent _ z1).1.dp (SeqAt.canLay_of_shaped okd)
    rw [hm] at dp
    obtain ⟨as, r1⟩ := Dp.reads I _ _ v dp z2
    exact ⟨as, Reads.keeps kp2 r1⟩
  have each : ∀ {us : List Value}, (∀ u ∈ us, u ∈ vs) → PySem.W.EachIs (fun (u : Value) (b : Value) => u = b ∧ b ∈ vs) us us := by
    intro us
    induction us with
    | nil => exact fun _ => .nil
    | cons u us ih => exact fun h => .cons ⟨rfl, h u List.mem_cons_self⟩ (ih fun w hw => h w (List.mem_cons_of_mem _ hw))
  have each0 := each (us := vs) fun _ z => z
  have eachP : PySem.W.EachIs (fun v d => ∃ as, Reads (PySem.W.sortingHeap (s1.heap.push (seqObj "list" vs.toArray 0)) s1.heap.objs.size vs) v d as) vs (vs.map fun u => toPy (dOf (ch u).2)) := by
    have go : ∀ us : List Value, (∀ u ∈ us, u ∈ vs) → PySem.W.EachIs (fun v d => ∃ as, Reads (PySem.W.sortingHeap (s1.heap.push (seqObj "list" vs.toArray 0)) s1.heap.objs.size vs) v d as) us (us.map fun u => toPy (dOf (ch u).2)) := by
      intro us
      induction us with
      | nil => exact fun _ => .nil
      | cons u us ih => exact fun h => .cons (reads u (h u List.mem_cons_self)) (ih fun w hw => h w (List.mem_cons_of_mem _ hw))
    exact go vs fun _ z => z
  have inv : ∀ d ∈ vs.map (fun u => toPy (dOf (ch u).2)), ∃ x ∈ ds, d = toPy x := fun d hd => by
    obtain ⟨u, hu, rfl⟩ := List.mem_map.mp hd
    exact ⟨_, inds _ (hch u (vin u hu)).1, rfl⟩
  have al : PySem.W.AllAlike (vs.map fun u => toPy (dOf (ch u).2)) := fun d hd d' hd' => by
    obtain ⟨x, hx, rfl⟩ := inv d hd
    obtain ⟨y, hy, rfl⟩ := inv d' hd'
    exact alk x hx y hy
  have sb : PySem.W.Sortable (vs.map fun u => toPy (dOf (ch u).2)) := by
    rcases c3 with c3 | c3
    · refine .inl fun d hd => ?_
      obtain ⟨x, hx, rfl⟩ := inv d hd
      have y := List.all_eq_true.mp c3 x hx
      cases x with
      | tup l => cases l with
        | nil => simp [isTup] at y
        | cons z l => exact ⟨_, _, rfl⟩
      | _ => simp [isTup] at y
    · refine .inr fun d hd => ?_
      obtain ⟨x, hx, rfl⟩ := inv d hd
      have y := List.all_eq_true.mp c3 x hx
      cases x <;> simp [notTup, toPy] at y ⊢
  have dep : ∀ d ∈ vs.map (fun u => toPy (dOf (ch u).2)), X.A.in1.in1.units + d.depth < cLine := fun d hd => by
    obtain ⟨x, hx, rfl⟩ := inv d hd
    have y := SeqAt.depth_of_shaped (List.all_eq_true.mp c1 x hx)
    show X.A.units + 1 + 1 + _ < _
    omega
  have S := PySem.W.SortsAt.data (prog := X.prog) (w := X.w) (A := X.A.in1.in1) (s := { s1 with heap := PySem.W.sortingHeap (s1.heap.push (seqObj "list" vs.toArray 0)) s1.heap.objs.size vs }) eachP al sb dep
  refine wpAny_bind (wpAny_holding (wpAny_call_entry slot_list_sort ⟨_, hoL, rfl⟩ entry_list_sort (PySem.W.list_sort_vals (s := { s1 with heap := s1.heap.push (seqObj "list" vs.toArray 0) }) hoL S (by rw [sizeLine_eq]; omega) ⟨_, rfl, ?_⟩) (args_list_sort _)))
  have keys : PySem.W.EachIs (fun (v : Value) (b : Value) => (PySem.W.dataKind (PySem.W.sortingHeap (s1.heap.push (seqObj "list" vs.toArray 0)) s1.heap.objs.size vs) (vs.map fun u => toPy (dOf (ch u).2))).keyOf v = some (keyT (dOf (ch b).2))) vs vs := by
    refine PySem.W.EachIs.mono (fun u b hb => ?_) each0
    obtain ⟨rfl, hb⟩ := hb
    obtain ⟨as, r1⟩ := reads u hb
    exact PySem.W.dataKind_some al (List.mem_map.mpr ⟨u, hb, rfl⟩) r1
  have out := PySem.W.sortVals_each (κ := PySem.W.dataKind (PySem.W.sortingHeap (s1.heap.push (seqObj "list" vs.toArray 0)) s1.heap.objs.size vs) (vs.map fun u => toPy (dOf (ch u).2))) (rev := false) (fun b : Value => keyT (dOf (ch b).2)) each0 keys
  generalize PySem.W.sortVals _ false vs vs = res at out
  have er : res = vs.mergeSort (PySem.W.sortLe (listOrd itemOrd) false fun b : Value => keyT (dOf (ch b).2)) := by
    have go : ∀ {us bs : List Value}, PySem.W.EachIs (fun (u : Value) (b : Value) => u = b ∧ b ∈ vs) us bs → us = bs := by
      intro us bs e
      induction e with
      | nil => rfl
      | cons h1 _ ih => rw [h1.1, ih]
    exact go out
  have rin : ∀ u ∈ res, u ∈ vs := fun u hu => by rw [er] at hu; exact (List.mergeSort_perm _ _).mem_iff.mp hu
  have rdat : res.map (fun u => dOf (ch u).2) = srtD (nubK [] ds) := by
    have d1 : res.map (fun u => dOf (ch u).2) = isort dLe (vs.map fun u => dOf (ch u).2) := by
      rw [isort_eq dLe_total, dLe_eq, er]
      exact PySem.W.sort_maps (s := PySem.W.sortLe (listOrd itemOrd) false keyT) (fun u => dOf (ch u).2) fun _ _ _ _ => rfl
    rw [d1]
    have pmD : (vs.map fun u => dOf (ch u).2).Perm (nubK [] ds) := by
      have p1 := pm.map fun u => dOf (ch u).2
      rw [List.map_map] at p1
      have p2 : (L.map ((fun u => dOf (ch u).2) ∘ fun e => Value.ref e.1)) = L.map fun e => dOf e.2 := List.map_congr_left fun e he => by
        obtain ⟨z1, z2⟩ := hch (Value.ref e.1) ⟨e, he, rfl⟩
        have z3 : e.1 = (ch (Value.ref e.1)).1 := by injection z2
        exact congrArg dOf (one _ z1 e he z3.symm)
      rw [p2] at p1
      refine p1.trans ((List.perm_ext_iff_of_nodup ?_ nub_dif.1).mpr fun d => ⟨fun hd => ?_, fun hd => ?_⟩)
      · refine List.pairwise_map.mpr (List.Pairwise.imp_of_mem (fun {e e'} he he' ne z => ne ?_) (List.pairwise_map.mp dif))
        have k1 := (ent e he).2.1
        have k2 := (ent e' he').2.1
        rw [z] at k1
        rw [k1] at k2
        exact Option.some.inj k2
      · obtain ⟨e, he, rfl⟩ := List.mem_map.mp hd
        rcases nub_key (seen := []) ⟨_, inds e he, (ent e he).2.1⟩ with y | ⟨d2, h2, z2⟩
        · exact absurd y List.not_mem_nil
        · rw [keyN_inj (ent e he).2.1 z2]; exact h2
      · obtain ⟨e, he, z⟩ := cov d (nub_mem hd)
        exact List.mem_map.mpr ⟨e, he, dOf_key z⟩
    have pmS : ∀ l : List D, (isort dLe l).Perm l := fun l => by rw [isort_eq dLe_total]; exact List.mergeSort_perm _ _
    have mk : ∀ d, d ∈ nubK [] ds → d ∈ ds ∧ ∃ k, keyN d = some k := fun d hd => ⟨nub_mem hd, by
      obtain ⟨_, k, _, z, _⟩ := isKey_inv (List.all_eq_true.mp ok.1 d (nub_mem hd)); exact ⟨k, z⟩⟩
    refine List.Perm.eq_of_pairwise (le := fun a b => dLe a b = true) (fun x y hx hy h1 h2 => ?_) (isort_pw dLe_total _) (isort_pw dLe_total _) (((pmS _).trans pmD).trans (pmS _).symm)
    obtain ⟨x1, k, x2⟩ := mk x (pmD.mem_iff.mp ((pmS _).mem_iff.mp hx))
    obtain ⟨y1, k', y2⟩ := mk y ((pmS _).mem_iff.mp hy)
    exact dLe_anti x2 (by rw [y2]; rfl) (alk x x1 y y1) h1 h2
  have rep : RepL m H (res.map fun u => V.ref (ch u).1) (srtD (nubK [] ds)) := by
    rw [← rdat]
    have go : ∀ us : List Value, (∀ u ∈ us, u ∈ vs) → RepL m H (us.map fun u => V.ref (ch u).1) (us.map fun u => dOf (ch u).2) := by
      intro us
      induction us with
      | nil => exact fun _ => .nil
      | cons u us ih => exact fun h => .cons (ent _ (hch u (vin u (h u List.mem_cons_self))).1).1 (ih fun w hw => h w (List.mem_cons_of_mem _ hw))
    exact go res rin
  have vals : Vals (res.map fun u => V.ref (ch u).1) res := by
    have go : ∀ us : List Value, (∀ u ∈ us, u ∈ vs) → Vals (us.map fun u => V.ref (ch u).1) us := by
      intro us
      induction us with
      | nil => exact fun _ => .nil
      | cons u us ih => exact fun h => .cons (hch u (vin u (h u List.mem_cons_self))).2 (ih fun w hw => h w (List.mem_cons_of_mem _ hw))
    exact go res rin
  obtain ⟨c, hc2⟩ := sortedHeap_at (vs := vs) (out := res.toArray) hoL
  have hp : s.heap.objs.size ≤ s1.heap.objs.size := hz
  have kp : ∀ b u, s.heap.get? b = some u → (sortedHeap (s1.heap.push (seqObj "list" vs.toArray 0)) s1.heap.objs.size vs res.toArray).get? b = some u := fun b u z => by
    have y := k1 b u z
    have lt := Heap.lt_size y
    rw [sortedHeap_old (Nat.ne_of_lt lt) (by rw [size_push']; exact Nat.lt_succ_of_lt lt)]
    exact Heap.get?_push_of_some _ y
  have hn : H s1.heap.objs.size = none := I.hok.fresh hp
  have rl : (res.map fun u => V.ref (ch u).1).length ≤ sizeLine := by
    rw [List.length_map, er, (List.mergeSort_perm _ _).length_eq, sizeLine_eq]; omega
  obtain ⟨hh1, gg1, dd1, tt1, oo1⟩ := s1
  obtain rfl : gg1 = s.gens := g1
  obtain rfl : oo1 = s.os := o1
  have J : Inv X pins σ (upd H hh1.objs.size (.lst (res.map fun u => V.ref (ch u).1))) { s with heap := sortedHeap (hh1.push (seqObj "list" vs.toArray 0)) hh1.objs.size vs res.toArray, gens := s.gens, drawn := dd1, toks := tt1 } :=
    I.call (ch := []) (Un.laid kp hp hn) (I.hok.laid kp hp ⟨rl, res, c, vals, hc2⟩) I.bare (fun _ z => nomatch z)
  exact wpAny_pure ⟨_, rfl, ⟨.ref hh1.objs.size, _, J, rfl, q _ _ rep hn⟩⟩
end
end DLS
end
section
namespace DL
open PySem PySem.Spec L2 DLS
open PyProof.Rows hiding St
/-! ### sorted(set(xs)) -/
def sortS : List D → Option (List D)
  | [.lst ds] => if (setOk ds && canSort ds) = true then some (srtD (nubK [] ds)) else none
  | _ => none
section
variable {X : Cx} {G : Gh} {W : WX} {a : Expr} {p p2 q0 pos : Pos}
theorem do_sortSet {f : M (List D)} (hm0 : G.m = ⟨X.K, X.mg, X.w⟩) (hc : X.calm = true) (hv : X.A.units + 130 < cLine) (hg : Gl X "sorted") (hm : X.mg "sorted" = none) (hg2 : Gl X "set") (hm2 : X.mg "set" = none) (ha : DA X G W [a] f)
    (h1 : starEach [.Call (.Name "set" p2) [a] [] q0] X.env = [(false, eval (.Call (.Name "set" p2) [a] [] q0) X.env)] := by rfl) (h2 : starEach [a] X.env = [(false, eval a X.env)] := by rfl)
    (h3 : (backTo pos (starEach [] X.env)).any (·.1) = false := by rfl) (h4 : (backTo q0 (starEach [] X.env)).any (·.1) = false := by rfl) :
    DO X G W (.Call (.Name "sorted" p) [.Call (.Name "set" p2) [a] [] q0] [] pos) (callO sortS f) := by
  have hK : G.m.K = X.K := by rw [hm0]
  have inner := pe_callTy (cr_setN hK hc hv) hg2 hm2 (by decide +kernel) ha (by decide) (by decide) h2 h4 (pos := q0) (p := p2)
  refine pe_imp (pe_callB (cr_sortN hK hc hv) hg hm (by decide +kernel) (pa_cons inner pa_nil h1) (by decide) (by decide) h1 h3) fun σ H Q ⟨ρ, k, q⟩ => ⟨ρ, k, q.bind.mono fun ds ρ1 H1 _ s1 k1 q1 vs r => ?_⟩
  obtain ⟨xs, e, q2⟩ := q1.lift k1
  unfold sortS at e
  split at e
  · rename_i ys _
    split at e
    · rename_i c
      cases e
      rw [Bool.and_eq_true] at c
      obtain ⟨v, rfl, rv⟩ := one_of r
      cases rv with
      | lst hq rl =>
        refine ⟨_, _, ys, rfl, hq.sq, rl, c.1, fun l L hl sub cov dif => ?_⟩
        have g := Grow.new (o := SetN X.w l L) hl
        refine ⟨l, L, ys, rfl, upd_same, fun e he => ?_, cov, dif, c.1, c.2, fun zs l2 rz hl2 => ?_⟩
        · obtain ⟨d, hd, z1, z2⟩ := sub e he
          exact ⟨d, hd, z1.st g.stable, z2⟩
        · have g2 := Grow.new (o := .lst zs) hl2
          have g3 := g.trans g2
          exact q2 _ g3.stable (k1.grow g3) l2 zs upd_same (rz.st g2.stable) ((k1.grow g).fresh hl2)
    · cases e
  · cases e
end
/-! ### sorted(d) -/
def sortK : List D → Option (List D)
  | [.dic ks _] => (strsOf ks).bind fun zs => if zs.length < 64 then some (srtD ks) else none
  | _ => none
theorem keys_str : ∀ {kvs : List (Key × V)} {zs : List Str}, strsOf (kvs.map fun p => keyD p.1) = some zs → kvs.map (·.1) = zs.map Sum.inr
  | [], zs, h => by simp [strsOf] at h; subst h; rfl
  | (k, v) :: kvs, zs, h => by
    cases k with
    | inl i => simp [strsOf, keyD] at h
    | inr x =>
      simp only [List.map_cons, keyD, strsOf, Option.map_eq_some_iff] at h
      obtain ⟨l, h1, rfl⟩ := h
      rw [List.map_cons, List.map_cons, keys_str h1]
theorem str_le (x y : Str) : dLe (.str x) (.str y) = !decide (y.cps.toList < x.cps.toList) := by
  unfold dLe dLt
  simp only [toPy]
  rw [PySem.W.dataLt_str]
theorem rising_pw : ∀ (l : List Str) (x : Str), risingS x l = true → ((x :: l).map D.str).Pairwise (fun a b => dLe a b = true)
  | [], x, _ => List.pairwise_singleton _ _
  | y :: l, x, h => by
    unfold risingS at h
    rw [Bool.and_eq_true] at h
    have ih := rising_pw l y h.2
    have xy : dLe (.str x) (.str y) = true := by
      rw [str_le]
      have z := h.1
      rw [ltCps_eq] at z
      exact z
    rw [List.map_cons]
    refine List.pairwise_cons.mpr ⟨fun d hd => ?_, ih⟩
    rw [List.map_cons] at hd ih
    rcases List.mem_cons.mp hd with rfl | hd
    · exact xy
    · exact dLe_total.trans _ _ _ xy ((List.pairwise_cons.mp ih).1 d hd)
theorem sortedS_pw (l : List Str) (h : sortedS l = true) : (l.map D.str).Pairwise (fun a b => dLe a b = true) := by
  cases l with
  | nil => exact List.Pairwise.nil
  | cons x l => exact rising_pw l x h
theorem str_anti {x y : Str} (h1 : dLe (.str x) (.str y) = true) (h2 : dLe (.str y) (.str x) = true) : x = y := by
  rw [str_le] at h1 h2
  have a1 : ¬ y.cps.toList < x.cps.toList := by simpa using h1
  have a2 : ¬ x.cps.toList < y.cps.toList := by simpa using h2
  have e : x.cps.toList = y.cps.toList := by
    have := List.le_antisymm (as := x.cps.toList) (bs := y.cps.toList) (by simpa [List.not_lt] using a1) (by simpa [List.not_lt] using a2)
    exact this
  exact PySem.W.str_of_cps e
section
variable {m : Md}
theorem co_sortK : CallO m (fun xs H Q => ∃ (a : Addr) (kvs : List (Key × V)) (ks : List Str), xs = [.ref a] ∧ Rd H a (.dK kvs) ∧ kvs.map (·.1) = ks.map Sum.inr ∧ ks.length < 64 ∧ ∀ ys p, ys.Perm ks → sortedS ys = true → H p = none → Q (.ref p) (upd H p (.lst (ys.map V.str)))) sortK := fun vs ds d H Q r e k => by
  unfold sortK at e
  split at e
  · rename_i ks vls
    obtain ⟨v, rfl, rv⟩ := one_of r
    cases q : strsOf ks with
    | none => rw [q] at e; cases e
    | some zs =>
      rw [q] at e
      simp only [Option.bind_some] at e
      by_cases c : zs.length < 64
      · rw [if_pos c] at e; cases e
        cases rv with
        | dicN hq n e0 r1 r2 =>
          refine (notK r1 n ?_).elim
          rw [strs_eq q]
          simp [isK]
        | dicK hq rl =>
          refine ⟨_, _, zs, rfl, .inr ⟨_, hq⟩, keys_str q, c, fun ys p pm so hp => ?_⟩
          have g := Grow.new (o := .lst (ys.map V.str)) hp
          refine k p _ _ g hp upd_same ?_
          have e1 := strs_eq q
          rw [e1]
          have eq : srtD (zs.map D.str) = ys.map D.str := by
            unfold srtD
            refine List.Perm.eq_of_pairwise (le := fun a b => dLe a b = true) (fun x y hx hy h1 h2 => ?_) (isort_pw dLe_total _) (sortedS_pw ys so) ?_
            · rw [isort_eq dLe_total] at hx
              obtain ⟨x', _, rfl⟩ := List.mem_map.mp ((List.mergeSort_perm _ _).mem_iff.mp hx)
              obtain ⟨y', _, rfl⟩ := List.mem_map.mp hy
              rw [str_anti h1 h2]
            · rw [isort_eq dLe_total]
              exact (List.mergeSort_perm _ _).trans ((pm.map D.str).symm)
          rw [eq]
          have go : ∀ l : List Str, RepL m (upd H p (.lst (ys.map V.str))) (l.map V.str) (l.map D.str) := by
            intro l
            induction l with
            | nil => exact .nil
            | cons x l ih => exact .cons (.str x) ih
          exact go ys
      · rw [if_neg c] at e; cases e
  · cases e
end
end DL
end
section
namespace DL
open PySem PySem.Spec L2 DLS
open PyProof.Rows hiding St
/-! ### {k: v, ..} -/
inductive PairL (m : Md) (H : Hp) : List (V × V) → List (D × D) → Prop
  | nil : PairL m H [] []
  | cons {v : V × V} {vs : List (V × V)} {p : D × D} {ps : List (D × D)} : Rep m H v.1 p.1 → Rep m H v.2 p.2 → PairL m H vs ps → PairL m H (v :: vs) (p :: ps)
theorem PairL.st {m : Md} {H H' : Hp} (s : Stable H H') : ∀ {vs : List (V × V)} {ps : List (D × D)}, PairL m H vs ps → PairL m H' vs ps
  | _, _, .nil => .nil
  | _, _, .cons a b c => .cons (a.st s) (b.st s) (c.st s)
def pairsM : List (M D × M D) → M (List (D × D))
  | [] => pureM []
  | (fk, fv) :: r => bindM fk fun x => bindM fv fun y => bindM (pairsM r) fun ps => pureM ((x, y) :: ps)
/-- different keys, ints and texts -/
def difK : List D → Bool
  | [] => true
  | k :: ks => isK k && (ks.all fun j => !sameK k j) && difK ks
def dicM (fs : List (M D × M D)) : M D := bindM (pairsM fs) fun ps => if difK (ps.map (·.1)) = true ∧ ps.length ≤ 15 then pureM (.dic (ps.map (·.1)) (ps.map (·.2))) else stuckM
section
variable {X : Cx} {G : Gh} {W : WX}
def trOf (G : Gh) (W : WX) (p : M D × M D) : TE × TE := (fun σ H Q => ∃ h, dT (G.at h) W p.1 σ H Q, fun σ H Q => ∃ h, dT (G.at h) W p.2 σ H Q)
inductive DPs (X : Cx) (G : Gh) (W : WX) : List (Option Expr) → List Expr → List (M D × M D) → Prop
  | nil : DPs X G W [] [] []
  | cons {k v : Expr} {ks : List (Option Expr)} {vs : List Expr} {fk fv : M D} {fs : List (M D × M D)} : (∀ h, DE X (G.at h) W k fk) → (∀ h, DE X (G.at h) W v fv) → DPs X G W ks vs fs → DPs X G W (some k :: ks) (v :: vs) ((fk, fv) :: fs)
theorem dps_pps {pos : Pos} : ∀ {ks : List (Option Expr)} {vs : List Expr} {fs : List (M D × M D)}, DPs X G W ks vs fs → PPs X pos ks vs (fs.map (trOf G W))
  | _, _, _, .nil => pps_nil
  | _, _, _, .cons a b c => pps_cons ⟨fun pins s σ H Q I ⟨h, q⟩ => (a h).run pins s σ H Q I q⟩ ⟨fun pins s σ H Q I ⟨h, q⟩ => (b h).run pins s σ H Q I q⟩ (dps_pps c)
theorem pairs_read {h : Hp} : ∀ (fs : List (M D × M D)) {σ : L2.St} {H : Hp} {ρ : DL.Env} {Q : List (V × V) → Hp → Prop}, StOk (G.at h) σ H ρ → postG (G.at h) W σ H (pairsM fs ρ) (fun ps ρ' H' => StOk (G.at h) σ H' ρ' → ∀ vs, PairL G.m H' vs ps → Q vs H') → tPairs (fs.map (trOf G W)) σ H Q
  | [], σ, H, ρ, Q, k, q => q H Stable.rfl k k _ .nil
  | (fk, fv) :: fs, σ, H, ρ, Q, k, q => by
    refine ⟨h, ρ, k, q.bind.mono fun x ρ1 H1 _ s1 k1 q1 v r => ?_⟩
    refine ⟨h, ρ1, k1, q1.bind.mono fun y ρ2 H2 _ s2 k2 q2 w r2 => ?_⟩
    refine pairs_read fs k2 (q2.bind.mono fun ps ρ3 H3 _ s3 k3 q3 k3' vs rs => ?_)
    exact q3 H3 Stable.rfl k3 k3' _ (.cons ((r.st s2).st s3) (r2.st s3) rs)
theorem keys_of : ∀ {m : Md} {H : Hp} {vs : List (V × V)} {ps : List (D × D)}, PairL m H vs ps → (ps.all fun p => isK p.1) = true → ∃ kvs : List (Key × V), vs = kvs.map (fun kv => (kV kv.1, kv.2)) ∧ ps.map (·.1) = kvs.map (fun kv => keyD kv.1) ∧ RepL m H (kvs.map (·.2)) (ps.map (·.2)) ∧ kvs.length = ps.length
  | _, _, _, _, .nil, _ => ⟨[], rfl, rfl, .nil, rfl⟩
  | _, _, _, _, .cons (v := v) (p := p) a b c, h => by
    rw [List.all_cons, Bool.and_eq_true] at h
    obtain ⟨kvs, e1, e2, e3, e4⟩ := keys_of c h.2
    obtain ⟨k, h1, h2⟩ := key_rep a h.1
    refine ⟨(k, v.2) :: kvs, ?_, ?_, .cons b e3, by simp [e4]⟩
    · rw [e1, List.map_cons, ← h1]
    · rw [List.map_cons, List.map_cons, h2, e2]
theorem merge_dif : ∀ (kvs acc : List (Key × V)), (∀ k ∈ kvs.map (·.1), k ∉ acc.map (·.1)) → (kvs.map (·.1)).Nodup → mergeK acc kvs = acc ++ kvs
  | [], acc, _, _ => by simp [mergeK]
  | (k, v) :: kvs, acc, h, nd => by
    rw [List.map_cons] at nd h
    obtain ⟨n1, n2⟩ := List.nodup_cons.mp nd
    have e : putK acc k v = acc ++ [(k, v)] := by
      unfold putK
      rw [if_neg]
      intro z
      obtain ⟨p, hp, e⟩ := List.any_eq_true.mp z
      exact h k List.mem_cons_self (List.mem_map.mpr ⟨p, hp, of_decide_eq_true e⟩)
    show mergeK (putK acc k v) kvs = _
    rw [e, merge_dif kvs (acc ++ [(k, v)]) (fun j hj z => ?_) n2]
    · simp
    · rw [List.map_append, List.mem_append] at z
      rcases z with z | z
      · exact h j (List.mem_cons_of_mem _ hj) z
      · simp at z; subst z; exact n1 hj
theorem difK_nodup : ∀ {kvs : List (Key × V)}, difK (kvs.map fun kv => keyD kv.1) = true → (kvs.map (·.1)).Nodup
  | [], _ => List.nodup_nil
  | (k, v) :: kvs, h => by
    rw [List.map_cons, difK, Bool.and_eq_true, Bool.and_eq_true] at h
    obtain ⟨⟨_, h2⟩, h3⟩ := h
    rw [List.map_cons]
    refine List.nodup_cons.mpr ⟨fun z => ?_, difK_nodup h3⟩
    obtain ⟨p, hp, e⟩ := List.mem_map.mp z
    have := List.all_eq_true.mp h2 (keyD p.1) (List.mem_map.mpr ⟨p, hp, rfl⟩)
    rw [same_key, e] at this
    simp at this
theorem difK_all : ∀ {ds : List D}, difK ds = true → ds.all isK = true
  | [], _ => rfl
  | d :: ds, h => by
    rw [difK, Bool.and_eq_true, Bool.and_eq_true] at h
    rw [List.all_cons, h.1.1, difK_all h.2]; rfl
theorem de_dict {ks : List (Option Expr)} {vs : List Expr} {fs : List (M D × M D)} {pos : Pos} (h : DPs X G W ks vs fs) (hall : ks.all (·.isSome) = true) (hl : ks.length = vs.length) (h0 : ks ≠ []) (h15 : ks.length ≤ 15) : DE X G W (.Dict ks vs pos) (dicM fs) :=
  pe_imp (pe_fz (pe_disp (dps_pps h) hall hl h0 h15)) fun σ H Q ⟨ρ, k, q⟩ => fun p hp => by
    have gr := Grow.new (o := .dK []) hp
    have f : Fresh G σ ρ p := k.fresh hp
    have k1 := (k.grow gr).add f upd_same
    have q1 := q.bind
    refine pairs_read (h := (G.add p (.dK [])).H0) fs k1 ?_
    have q2 := postG.from gr.stable q1
    have conv : ∀ H' ρ', StOk (G.at (G.add p (.dK [])).H0) σ H' ρ' → StOk G σ H' ρ' := fun H' ρ' k' => (StOk.unadd (p := p) (o := .dK []) k' f.1 f.2.1).1
    refine (postG.reG (G := G) (G' := G.at (G.add p (.dK [])).H0) rfl conv q2).mono fun ps ρ2 H2 _ s2 k2 q3 k2' ws rs => ?_
    obtain ⟨q3, _⟩ := q3
    obtain ⟨k3, f3, hp2⟩ := StOk.unadd (p := p) (o := .dK []) k2' f.1 f.2.1
    by_cases c : difK (ps.map (·.1)) = true ∧ ps.length ≤ 15
    · rw [if_pos c] at q3
      obtain ⟨kvs, e1, e2, e3, e4⟩ := keys_of rs (by have := difK_all c.1; rw [List.all_map] at this; exact this)
      refine ⟨hp2, kvs, e1, by omega, .inr ⟨p, _, rfl, upd_same, trivial, fun o => ?_⟩⟩
      have nd := difK_nodup (kvs := kvs) (by rw [← e2]; exact c.1)
      have em : mergeK [] kvs = kvs := by rw [merge_dif kvs [] (fun k _ z => by simp at z) nd]; rfl
      rw [em]
      have eu : upd (upd H2 p (.dK kvs)) p (.frz o (.dK kvs)) = upd H2 p (.frz o (.dK kvs)) := upd_upd
      rw [eu]
      have st : Stable H2 (upd H2 p (.frz o (.dK kvs))) := Stable.upd hp2 id
      refine q3 _ st (k3.upd f3 fun u hu => nfix_of hp2 id hu) _ ?_
      rw [e2]
      exact .dicK upd_same (e3.st st)
    · rw [if_neg c] at q3; exact q3.elim
end
end DL
end
section
namespace DL
open PySem PySem.Spec L2 DLS
open PyProof.Rows hiding St
/-! ### the making of an instance: the body of __init__ -/
mutual
def noIns : D → Bool
  | .ins _ _ _ => false
  | .lst xs => noInsL xs
  | .tup xs => noInsL xs
  | .dic _ vs => noInsL vs
  | _ => true
def noInsL : List D → Bool
  | [] => true
  | d :: ds => noIns d && noInsL ds
end
mutual
theorem nk_noIns : ∀ k : NestedKey, noIns (nkD k) = true
  | .none => rfl
  | .num _ => rfl
  | .text _ => rfl
  | .tup ks => by rw [nkD, noIns]; exact nks_noIns ks
theorem nks_noIns : ∀ ks : List NestedKey, noInsL (nkDs ks) = true
  | [] => rfl
  | k :: ks => by rw [nkDs, noInsL, nk_noIns k, nks_noIns ks]; rfl
end
theorem nkD_noIns : ∀ kvs : List NEnt, noInsL (kvs.map fun p => nkD p.1) = true
  | [] => rfl
  | p :: l => by rw [List.map_cons, noInsL, nk_noIns, nkD_noIns l]; rfl
/-- all but x is kept -/
def GX (x : Addr) (H H' : Hp) : Prop := ∀ a o, a ≠ x → H a = some o → H' a = some o
theorem GX.rfl {x : Addr} {H : Hp} : GX x H H := fun _ _ _ h => h
theorem GX.trans {x : Addr} {H1 H2 H3 : Hp} (a : GX x H1 H2) (b : GX x H2 H3) : GX x H1 H3 := fun y o n h => b y o n (a y o n h)
section
variable {m : Md} {H H' : Hp} {x : Addr}
mutual
theorem Rep.gx (g : GX x H H') (hx : ∃ C dx fs, H x = some (.ins C dx fs)) : ∀ {d : D} {v : V}, noIns d = true → Rep m H v d → Rep m H' v d
  | .non, _, _, h => by cases h; exact .non
  | .bl b, _, _, h => by cases h; exact .bl b
  | .int i, _, _, h => by cases h; exact .int i
  | .str x, _, _, h => by cases h; exact .str x
  | .lst ds, _, n, h => by
    cases h with
    | lst q r =>
      refine .lst ?_ (RepL.gx g hx (by rw [noIns] at n; exact n) r)
      rcases q with ⟨o, e⟩ | q
      · exact .inl ⟨o, g _ _ (fun z => by obtain ⟨C, dx, fs, e2⟩ := hx; rw [z, e2] at e; cases e) e⟩
      · exact .inr q
  | .tup ds, _, n, h => by
    cases h with
    | tup q r =>
      refine .tup ?_ (RepL.gx g hx (by rw [noIns] at n; exact n) r)
      obtain ⟨C, dx, fs, e2⟩ := hx
      rcases q with (e | ⟨o, e⟩) | q
      · exact .inl (.inl (g _ _ (fun z => by rw [z, e2] at e; cases e) e))
      · exact .inl (.inr ⟨o, g _ _ (fun z => by rw [z, e2] at e; cases e) e⟩)
      · exact .inr q
  | .dic ks ds, _, n, h => by
    cases h with
    | dicN q nn e r1 r2 => exact .dicN (g _ _ (fun z => by obtain ⟨C, dx, fs, e2⟩ := hx; rw [z, e2] at q; cases q) q) nn e (RepL.gx g hx (by rw [e]; exact nkD_noIns _) r1) (RepL.gx g hx (by rw [noIns] at n; exact n) r2)
    | dicK q r => exact .dicK (g _ _ (fun z => by obtain ⟨C, dx, fs, e2⟩ := hx; rw [z, e2] at q; cases q) q) (RepL.gx g hx (by rw [noIns] at n; exact n) r)
  | .ins _ _ _, _, n, _ => by simp [noIns] at n
theorem RepL.gx (g : GX x H H') (hx : ∃ C dx fs, H x = some (.ins C dx fs)) : ∀ {ds : List D} {vs : List V}, noInsL ds = true → RepL m H vs ds → RepL m H' vs ds
  | [], _, _, h => by cases h; exact .nil
  | d :: ds, _, n, h => by
    rw [noInsL, Bool.and_eq_true] at n
    cases h with
    | cons a b => exact .cons (Rep.gx g hx n.1 a) (RepL.gx g hx n.2 b)
end
end
/-- the slots of __init__: the instance in slot 0, data without instances in the others -/
structure IOk (m : Md) (x C dx : Addr) (c : Str) (ns : List Str) (ds : List D) (σ : L2.St) (H : Hp) (ρ : DL.Env) : Prop where
  len : σ.length = ρ.length
  dat : ∀ (i : Nat) (d : D), 0 < i → ρ[i]? = some (.d d) → noIns d = true ∧ ∃ v, σ[i]? = some (some v) ∧ Rep m H v d
  pla : ∀ (i : Nat) (s : Sl), ρ[i]? = some s → plain s = true
  me : σ[0]? = some (some (.ref x))
  s0 : ρ[0]? = some (.d (.ins c ns ds))
  mg : m.mg c = some (.ref C)
  nof : noInsL ds = true
  ob : ∃ vs, H x = some (.ins C dx (ns.zip vs)) ∧ ns.length = vs.length ∧ RepL m H vs ds
section
variable {m : Md} {x C dx : Addr} {c : Str} {ns : List Str} {ds : List D} {σ : L2.St} {H H' : Hp} {ρ ρ' : DL.Env}
abbrev gi (m : Md) (H : Hp) : Gh := ⟨m, H, [], none⟩
theorem IOk.st (k : IOk m x C dx c ns ds σ H ρ) : StOk (gi m H) σ H ρ where
  len := k.len
  dat := fun i d h => by
    cases i with
    | zero =>
      rw [k.s0] at h; cases h
      obtain ⟨vs, h1, h2, h3⟩ := k.ob
      exact ⟨_, k.me, .ins k.mg h1 h2 h3⟩
    | succ i => exact (k.dat _ d (Nat.succ_pos i) h).2
  own := fun i xs h => by have := k.pla i _ h; simp [plain] at this
  sep := fun i j xs ys a _ h => by have := k.pla i _ h; simp [plain] at this
  prot := fun p hp => absurd hp List.not_mem_nil
  keep := fun a o h _ => h
  exn := fun i c h => by have := k.pla i _ h; simp [plain] at this
theorem IOk.keeps (k' : StOk (gi m H) σ H' ρ') : Grow H H' := fun a o e => k'.keep a o e fun p hp => absurd hp List.not_mem_nil
end
/-- slot 0 holds the instance, the others hold plain data without instances -/
def iniC (ρ : DL.Env) : Bool := ρ.all plain && ((ρ.drop 1).all fun s => match s with
  | .d d => noIns d
  | _ => true) && match (ρ[0]? : Option Sl) with
  | some (.d (.ins _ _ ds)) => noInsL ds
  | _ => false
theorem iniC_get {ρ : DL.Env} (h : iniC ρ = true) : (∀ (i : Nat) (s : Sl), ρ[i]? = some s → plain s = true) ∧ (∀ (i : Nat) (d : D), 0 < i → ρ[i]? = some (.d d) → noIns d = true) ∧ ∃ c ns ds, ρ[0]? = some (.d (.ins c ns ds)) ∧ noInsL ds = true := by
  unfold iniC at h
  rw [Bool.and_eq_true, Bool.and_eq_true] at h
  obtain ⟨⟨h1, h2⟩, h3⟩ := h
  refine ⟨fun i s e => List.all_eq_true.mp h1 s (List.mem_of_getElem? e), fun i d hi e => ?_, ?_⟩
  · obtain ⟨i, rfl⟩ : ∃ j, i = j + 1 := ⟨i - 1, by omega⟩
    have q : (ρ.drop 1)[i]? = some (.d d) := by rw [List.getElem?_drop, Nat.add_comm]; exact e
    exact List.all_eq_true.mp h2 _ (List.mem_of_getElem? q)
  · cases e : ρ[0]? with
    | none => rw [e] at h3; cases h3
    | some s =>
      rw [e] at h3
      cases s with
      | d d => cases d with
        | ins c ns ds => exact ⟨c, ns, ds, rfl, h3⟩
        | _ => cases h3
      | _ => cases h3
section
variable {m : Md} {x C dx : Addr} {c : Str} {ns : List Str} {ds : List D} {σ : L2.St} {H H' : Hp} {ρ ρ' : DL.Env} {W : WX}
/-- behind an expression: the same slots, a larger heap -/
theorem IOk.grow (k : IOk m x C dx c ns ds σ H ρ) (k' : StOk (gi m H) σ H' ρ') (h : iniC ρ' = true) : ∃ c' ns' ds', IOk m x C dx c' ns' ds' σ H' ρ' := by
  obtain ⟨h1, h2, c', ns', ds', h3, h4⟩ := iniC_get h
  obtain ⟨vs, g1, _, _⟩ := k.ob
  have kp := IOk.keeps k'
  obtain ⟨v, e1, e2⟩ := k'.dat 0 _ h3
  rw [k.me] at e1; cases e1
  cases e2 with
  | ins a1 a2 a3 a4 =>
    have z := (kp _ _ g1).symm.trans a2
    injection z with z
    injection z with z1 z2 z3
    subst z1 z2
    exact ⟨c', ns', ds', k'.len, fun i d hi e => ⟨h2 i d hi e, k'.dat i d e⟩, h1, k.me, h3, a1, h4, ⟨_, a2, a3, a4⟩⟩
/-- what becomes of the state -/
def iPost (m : Md) (W : WX) (x C dx : Addr) (H : Hp) (r : Res Flow) (E : Ends) : Prop := match r with
  | .ok .nx ρ => ∀ c ns ds σ' H', GX x H H' → IOk m x C dx c ns ds σ' H' ρ → E.nx σ' H'
  | .exc e _ => ∀ σ' C' H', m.mg e = some (.ref C') → GX x H H' → W (.ref C') none σ' H'
  | _ => False
theorem iPost.from {r : Res Flow} {E : Ends} (g : GX x H H') (h : iPost m W x C dx H r E) : iPost m W x C dx H' r E := by
  cases r with
  | ok f ρ => cases f with
    | nx => exact fun c ns ds σ2 H2 g2 k => h c ns ds σ2 H2 (g.trans g2) k
    | _ => exact h.elim
  | exc e ρ => exact fun σ2 C2 H2 e2 g2 => h σ2 C2 H2 e2 (g.trans g2)
  | stuck => exact h.elim
def inT (m : Md) (W : WX) (f : MS) : TS := fun E σ H => ∃ x C dx c ns ds ρ, IOk m x C dx c ns ds σ H ρ ∧ iPost m W x C dx H (f ρ) E
end
def IS (X : Cx) (m : Md) (W : WX) (s : Stmt) (f : MS) : Prop := PS X s (inT m W f)
def ISs (X : Cx) (m : Md) (W : WX) (s : List Stmt) (f : MS) : Prop := PSs X s (inT m W f)
/-- an expression at the slots of __init__: what it gives, then k -/
def atM {α : Type} (f : M α) (k : α → MS) : MS := fun ρ => match f ρ with
  | .ok a ρ' => if iniC ρ' = true then k a ρ' else .stuck
  | .exc c ρ' => .exc c ρ'
  | .stuck => .stuck
section
variable {X : Cx} {m : Md} {W : WX} {x C dx : Addr} {c : Str} {ns : List Str} {ds : List D} {σ : L2.St} {H : Hp} {ρ : DL.Env} {E : Ends} {α : Type}
theorem atM_run {f : M α} {k : α → MS} (i : IOk m x C dx c ns ds σ H ρ) (q : iPost m W x C dx H (atM f k ρ) E) :
    postG (gi m H) W σ H (f ρ) fun a ρ' H' => GX x H H' ∧ (∃ c' ns' ds', IOk m x C dx c' ns' ds' σ H' ρ') ∧ iPost m W x C dx H (k a ρ') E := by
  unfold atM at q
  cases e : f ρ with
  | ok a ρ' =>
    rw [e] at q
    by_cases h : iniC ρ' = true
    · simp only [h, if_true] at q
      intro H' s' k'
      have kp := IOk.keeps k'
      have g : GX x H H' := fun b o _ z => kp b o z
      exact ⟨g, i.grow k' h, q⟩
    · simp only [h, if_false] at q; exact q.elim
  | exc e2 ρ' =>
    rw [e] at q
    intro C' H' he s' k'
    have kp := IOk.keeps k'
    exact q σ C' H' he fun b o _ z => kp b o z
  | stuck => rw [e] at q; exact q.elim
theorem is_cons {s : Stmt} {r : List Stmt} {f g : MS} (h1 : IS X m W s f) (h2 : ISs X m W r g) : ISs X m W (s :: r) (seqM f g) := pss_imp (pss_cons h1 h2) fun E σ H ⟨x, C, dx, c, ns, ds, ρ, k, q⟩ => by
  refine ⟨x, C, dx, c, ns, ds, ρ, k, ?_⟩
  unfold seqM at q
  cases e : f ρ with
  | ok fl ρ' =>
    rw [e] at q
    cases fl with
    | nx => exact fun c' ns' ds' σ' H' g' k' => ⟨x, C, dx, c', ns', ds', ρ', k', q.from g'⟩
    | _ => exact q.elim
  | exc e2 ρ' => rw [e] at q; exact q
  | stuck => rw [e] at q; exact q.elim
/-- if test: raise X(..) -/
def ifRaise (f : M Bool) (e : Str) : MS := atM f fun b => if b = true then raiseM e else skipM
theorem is_if {t : Expr} {r : Stmt} {f : M Bool} {e : Str} {pos : Pos} (ht : ∀ h, DT X (gi m h) W t f) (hr : ∀ h, DS X (gi m h) W .f r (raiseM e)) : IS X m W (.If t [r] [] pos) (ifRaise f e) := by
  refine ⟨fun pins s σ H D I ⟨x, C, dx, c, ns, ds, ρ, k, q⟩ => ?_⟩
  refine (ps_if (ht H) (pss_one (hr H)) pss_nil).run pins s σ H D I ⟨ρ, k.st, (atM_run k q).mono fun b ρ' H' _ s' k' ⟨g, ⟨c', ns', ds', k2⟩, q2⟩ => ?_⟩
  cases b with
  | true =>
    rw [if_pos rfl]
    exact ⟨ρ', k', fun σ2 C2 H2 e2 s2 k3 => q2 σ2 C2 H2 e2 fun b o _ z => IOk.keeps k3 b o z⟩
  | false => rw [if_neg (by decide)]; exact q2 c' ns' ds' σ H' g k2
end
end DL
end
section
namespace DL
open PySem PySem.Spec L2 DLS
open PyProof.Rows hiding St
theorem putF_new {f : Str} {v : V} : ∀ {ns : List Str} {vs : List V}, ns.length = vs.length → f ∉ ns → putF f v (ns.zip vs) = (ns ++ [f]).zip (vs ++ [v])
  | [], [], _, _ => rfl
  | [], _ :: _, h, _ => by simp at h
  | _ :: _, [], h, _ => by simp at h
  | n :: ns, w :: vs, h, nf => by
    have ne : ¬ n = f := fun z => nf (by rw [z]; exact List.mem_cons_self)
    rw [List.zip_cons_cons, putF, if_neg ne, putF_new (by simpa using h) fun z => nf (List.mem_cons_of_mem _ z)]; rfl
def setFM (c f : Str) (fe : M D) : MS := atM fe fun d ρ => match (ρ[0]? : Option Sl) with
  | some (.d (.ins c' ns ds)) => if c' = c ∧ f ∉ ns ∧ noIns d = true ∧ ns.length < 1000 then .ok .nx (ρ.set 0 (.d (.ins c' (ns ++ [f]) (ds ++ [d])))) else .stuck
  | _ => .stuck
section
variable {X : Cx} {m : Md} {W : WX} {x C dx : Addr} {c : Str} {ns : List Str} {ds : List D} {σ : L2.St} {H : Hp} {ρ : DL.Env} {E : Ends}
theorem noInsL_app : ∀ {ds : List D} {d : D}, noInsL ds = true → noIns d = true → noInsL (ds ++ [d]) = true
  | [], d, _, h => by simp [noInsL, h]
  | e :: ds, d, h, h2 => by
    rw [noInsL, Bool.and_eq_true] at h
    rw [List.cons_append, noInsL, h.1, noInsL_app h.2 h2]; rfl
/-- the instance has another field -/
theorem IOk.put (k : IOk m x C dx c ns ds σ H ρ) {f : Str} {v : V} {d : D} (nf : f ∉ ns) (hn : noIns d = true) (r : Rep m H v d) : ∃ vs, H x = some (.ins C dx (ns.zip vs)) ∧ ns.length = vs.length ∧
    IOk m x C dx c (ns ++ [f]) (ds ++ [d]) σ (upd H x (.ins C dx (putF f v (ns.zip vs)))) (ρ.set 0 (.d (.ins c (ns ++ [f]) (ds ++ [d])))) ∧ GX x H (upd H x (.ins C dx (putF f v (ns.zip vs)))) := by
  obtain ⟨vs, g1, g2, g3⟩ := k.ob
  have gx : GX x H (upd H x (.ins C dx (putF f v (ns.zip vs)))) := fun b o ne e => by rw [upd_ne ne]; exact e
  have hx : ∃ C dx fs, H x = some (.ins C dx fs) := ⟨_, _, _, g1⟩
  have h0 : 0 < ρ.length := (List.getElem?_eq_some_iff.mp k.s0).1
  refine ⟨vs, g1, g2, ⟨by rw [List.length_set]; exact k.len, fun i e hi he => ?_, fun i s e => ?_, k.me, by rw [List.getElem?_set_self h0], k.mg, noInsL_app k.nof hn, ?_⟩, gx⟩
  · rw [List.getElem?_set_ne (by omega)] at he
    obtain ⟨n1, w, e1, e2⟩ := k.dat i e hi he
    exact ⟨n1, w, e1, e2.gx gx hx n1⟩
  · by_cases z : i = 0
    · subst z
      rw [List.getElem?_set_self h0] at e; cases e; rfl
    · rw [List.getElem?_set_ne (fun y => z y.symm)] at e
      exact k.pla i s e
  · refine ⟨vs ++ [v], by rw [upd_same, putF_new g2 nf], by simp [g2], ?_⟩
    exact (RepL.gx gx hx k.nof g3).append (.cons (r.gx gx hx hn) .nil)
theorem is_setF {f s0 : Str} {fs : List Str} {value : Expr} {fe : M D} {p0 p1 pos : Pos} (hm0 : m = ⟨X.K, X.mg, X.w⟩) (T : ClsD X.K X.mg c fs) (hf : f ∈ fs) (hv : ∀ h, DE X (gi m h) W value fe) (hN : X.N[0]? = some s0)
    (hvis : Vis X.env.scope s0 := by first | exact .inl rfl | exact .inr (.inl rfl) | exact .inr (.inr rfl)) (hd : (s0 == ("__debug__" : Str)) = false := by decide) (hcd : (s0 == ("__classdict__" : Str)) = false := by decide)
    (hs : swapsWith value (some (.Attribute (.Name s0 p0) f p1)) pos.line X.env = pure false := by rfl) : IS X m W (.Assign [.Attribute (.Name s0 p0) f p1] value pos) (setFM c f fe) := by
  obtain ⟨C0, t1, t2, t3⟩ := T.ex
  refine ⟨fun pins s σ H D I ⟨x, C, dx, c', ns, ds, ρ, k, q⟩ => ?_⟩
  refine (ps_fld (pe_var (i := 0) hN hvis hd hcd) (hv H) hs).run pins s σ H D I ⟨ρ, k.st, (atM_run k q).mono fun d ρ' H' _ s' k' ⟨g, ⟨c1, ns1, ds1, k2⟩, q2⟩ v r => ?_⟩
  refine ⟨_, k2.me, ?_⟩
  rw [k2.s0] at q2
  dsimp only at q2
  by_cases cc : c1 = c ∧ f ∉ ns1 ∧ noIns d = true ∧ ns1.length < 1000
  · rw [if_pos cc] at q2
    obtain ⟨e1, e2, e3, e4⟩ := cc
    subst e1
    obtain ⟨vs, g1, g2, k3, gx⟩ := k2.put e2 e3 r
    have mg : m.mg c1 = some (.ref C) := k2.mg
    rw [hm0] at mg
    have mg : X.mg c1 = some (.ref C) := mg
    rw [t1] at mg; cases mg
    exact ⟨x, _, dx, _, rfl, g1, t2, t3 f hf, by rw [List.length_zip, ← g2, Nat.min_self]; exact e4, q2 _ _ _ σ _ (g.trans gx) k3⟩
  · rw [if_neg cc] at q2; exact q2.elim
/-- for t in e: if test: raise X(..) -/
def forIfGo (i : Nat) (f : M Bool) (e : Str) : List D → MS
  | [] => skipM
  | d :: ds => fun ρ => if noIns d = true then (match ifRaise f e (ρ.set i (.d d)) with
    | .ok .nx ρ' => forIfGo i f e ds ρ'
    | r => r) else .stuck
def forIfM (i : Nat) (fi : M (List D)) (f : M Bool) (e : Str) : MS := atM fi fun ds => forIfGo i f e ds
theorem IOk.slot (k : IOk m x C dx c ns ds σ H ρ) {i : Nat} {v : V} {d : D} (hi : 0 < i) (hn : noIns d = true) (r : Rep m H v d) : IOk m x C dx c ns ds (σ.set i (some v)) H (ρ.set i (.d d)) := by
  refine ⟨by simp [k.len], fun j e hj he => ?_, fun j s e => ?_, by rw [List.getElem?_set_ne (by omega)]; exact k.me, by rw [List.getElem?_set_ne (by omega)]; exact k.s0, k.mg, k.nof, k.ob⟩
  · by_cases z : i = j
    · subst z
      have hl : i < ρ.length := by
        have := (List.getElem?_eq_some_iff.mp he).1
        simpa using this
      rw [List.getElem?_set_self hl] at he; cases he
      exact ⟨hn, v, by rw [List.getElem?_set_self (by rw [k.len]; exact hl)], r⟩
    · rw [List.getElem?_set_ne z] at he
      obtain ⟨n1, w, e1, e2⟩ := k.dat j e hj he
      exact ⟨n1, w, by rw [List.getElem?_set_ne z]; exact e1, e2⟩
  · by_cases z : i = j
    · subst z
      have hl : i < ρ.length := by
        have := (List.getElem?_eq_some_iff.mp e).1
        simpa using this
      rw [List.getElem?_set_self hl] at e; cases e; rfl
    · rw [List.getElem?_set_ne z] at e; exact k.pla j s e
end
end DL
end
section
namespace DL
open PySem PySem.Spec L2 DLS
open PyProof.Rows hiding St
section
variable {X : Cx} {m : Md} {W : WX} {x C dx : Addr} {c : Str} {ns : List Str} {ds : List D} {σ : L2.St} {H : Hp} {ρ : DL.Env} {E : Ends}
theorem is_forIf (i : Nat) {y : Str} {iter t : Expr} {r : Stmt} {fi : M (List D)} {f : M Bool} {e : Str} {p1 p2 pos : Pos} (hi0 : 0 < i) (hp : PassesOwn (model X.prog X.w) X.A X.env X.xe) (hc : X.calm = true) (hN : X.N.Nodup) (hy : X.N[i]? = some y) (hl : Loc X.env.scope y)
    (hi : ∀ h, DI X (gi m h) W (.Name y p1) iter fi) (ht : ∀ h, DT X (gi m h) W t f) (hr : ∀ h, DS X (gi m h) W .f r (raiseM e)) (hfn : X.fn y = true ∨ X.env.scope.names.lookup y = some .local := by first | exact .inl rfl | exact .inr rfl | assumption)
    (hs : ∀ v, foldedSetIterable iter X.env v = pure v := by intro _; rfl) : IS X m W (.For (.Name y p1) iter [.If t [r] [] p2] [] pos) (forIfM i fi f e) := by
  have htE : PT X t (fun σ H Q => ∃ h, tT (gi m h) W f σ H Q) := ⟨fun pins s σ H Q I ⟨h, q⟩ => (ht h).run pins s σ H Q I q⟩
  have hrE : PS X r (fun E σ H => ∃ h, sT (gi m h) W .f (raiseM e) E σ H) := ⟨fun pins s σ H Q I ⟨h, q⟩ => (hr h).run pins s σ H Q I q⟩
  refine ⟨fun pins s σ H D I ⟨x, C, dx, c, ns, ds, ρ, k, q⟩ => ?_⟩
  refine (ps_for hp hc (hi H) (pg_name (i := i) hN hy hl hfn) (pss_one (ps_if htE (pss_one hrE) pss_nil)) hs).run pins s σ H D I ⟨ρ, k.st, (atM_run k q).mono fun xs ρ1 H1 _ s1 k1 ⟨g, ⟨c1, ns1, ds1, k2⟩, q2⟩ J io => ?_⟩
  refine ⟨fun j n σ' H' => n = xs.length - j ∧ j ≤ xs.length ∧ Stable H1 H' ∧ ∃ c ns ds ρ', IOk m x C dx c ns ds σ' H' ρ' ∧ iPost m W x C dx H' (forIfGo i f e (xs.drop j) ρ') D, ⟨_, rfl, Nat.zero_le _, Stable.rfl, c1, ns1, ds1, ρ1, k2, q2.from g⟩, ?_⟩
  rintro j n σ' H' ⟨rfl, hj, st, c2, ns2, ds2, ρ', k', q'⟩
  by_cases lt : j < xs.length
  · refine .inr ⟨io.go j H' st lt, fun σ2 H2 => Stable H1 H2 ∧ ∃ c ns ds ρ2, IOk m x C dx c ns ds σ2 H2 ρ2 ∧ iPost m W x C dx H2 (forIfGo i f e (xs.drop (j + 1)) ρ2) D, fun σ2 H2 ⟨w1, w2⟩ => ⟨xs.length - (j + 1), by omega, rfl, lt, w1, w2⟩, fun v H2 z => ?_⟩
    obtain ⟨e2, d, hd, rd⟩ := io.yld j H' v H2 st lt z
    subst e2
    have ed : xs.drop j = d :: xs.drop (j + 1) := by
      rw [List.drop_eq_getElem_cons lt]
      rw [List.getElem?_eq_getElem lt] at hd
      injection hd with hd
      rw [hd]
    rw [ed] at q'
    unfold forIfGo at q'
    by_cases nn : noIns d = true
    · simp only [nn, if_true] at q'
      have k3 := k'.slot hi0 nn rd
      have q3 : iPost m W x C dx H2 (match ifRaise f e (ρ'.set i (.d d)) with | .ok .nx ρ' => forIfGo i f e (xs.drop (j + 1)) ρ' | r => r) D := q'
      show _
      unfold ifRaise atM at q3
      refine ⟨H2, ρ'.set i (.d d), k3.st, ?_⟩
      cases eb : f (ρ'.set i (.d d)) with
      | ok b ρ4 =>
        rw [eb] at q3
        by_cases ic : iniC ρ4 = true
        · simp only [ic, if_true] at q3
          intro H4 s4 k4
          have kp := IOk.keeps k4
          obtain ⟨c5, ns5, ds5, k5⟩ := k3.grow k4 ic
          have g4 : GX x H2 H4 := fun a o _ z => kp a o z
          cases b with
          | true =>
            simp only [if_true] at q3 ⊢
            exact ⟨H2, ρ4, k4, fun σ5 C5 H5 e5 s5 k6 => q3 σ5 C5 H5 e5 fun a o _ z => IOk.keeps k6 a o z⟩
          | false =>
            simp only [Bool.false_eq_true, if_false] at q3 ⊢
            exact ⟨st.trans kp.stable, c5, ns5, ds5, ρ4, k5, q3.from g4⟩
        · simp only [ic, if_false] at q3; exact q3.elim
      | exc c6 ρ4 =>
        rw [eb] at q3
        intro C4 H4 h4 s4 k4
        exact q3 _ C4 H4 h4 fun a o _ z => IOk.keeps k4 a o z
      | stuck => rw [eb] at q3; exact q3.elim
    · simp only [nn, if_false] at q'; exact q'.elim
  · have hj2 : xs.length ≤ j := by omega
    rw [List.drop_of_length_le hj2] at q'
    exact .inl ⟨io.stop j H' st hj2, q' c2 ns2 ds2 σ' H' GX.rfl k'⟩
end
end DL
end
section
namespace DL
open PySem PySem.Spec L2 DLS
open PyProof.Rows hiding St
/-! ### the dict of an instance that __init__ fills -/
def sFz (t : TS) : TS := fun D σ H => t ⟨fun σ' H' => ∃ a u, H' a = some u ∧ Mut (some u) ∧ ∀ o, D.nx σ' (upd H' a (.frz o u)), D.rt, D.bk, D.ct⟩ σ H
theorem ps_lock {X : Cx} {st : Stmt} {t : TS} (h : PS X st t) : PS X st (sFz t) := ⟨fun pins s σ H D I q => thn (h.run pins s σ H _ I q) fun f s1 w => by
  cases f with
  | next =>
    obtain ⟨σ', H', I', a, u, hu, mu, q⟩ := w
    obtain ⟨od, I2⟩ := I'.lock hu mu
    exact ⟨σ', _, I2, q od⟩
  | brk => exact w
  | cont => exact w
  | ret u => exact w⟩
/-- slot 0 is closed, the others hold data -/
def kC (ρ : DL.Env) : Bool := ρ.all plain && match (ρ[0]? : Option Sl) with
  | some (.d _) => false
  | _ => true
theorem kC_pl {ρ : DL.Env} (h : kC ρ = true) (i : Nat) (s : Sl) (e : ρ[i]? = some s) : plain s = true := by
  unfold kC at h
  rw [Bool.and_eq_true] at h
  exact List.all_eq_true.mp h.1 s (List.mem_of_getElem? e)
section
variable {m : Md} {G : Gh} {x p C dx : Addr} {c f : Str} {ns : List Str} {ds : List D} {acc : List (D × D)} {σ σ' : L2.St} {H0 H H' : Hp} {ρ ρ' : DL.Env} {W : WX}
theorem rebase (k : StOk G σ H ρ) (h : ∀ (i : Nat) (s : Sl), ρ[i]? = some s → plain s = true) (st : Stable H H') : StOk (gi G.m H') σ H' ρ where
  len := k.len
  dat := fun i d e => by
    obtain ⟨v, e1, e2⟩ := k.dat i d e
    exact ⟨v, e1, e2.st st⟩
  own := fun i xs e => by have := h i _ e; simp [plain] at this
  sep := fun i j xs ys a _ e => by have := h i _ e; simp [plain] at this
  prot := fun p hp => absurd hp List.not_mem_nil
  keep := fun a o e _ => e
  exn := fun i c e => by have := h i _ e; simp [plain] at this
structure KOk (m : Md) (x p C dx : Addr) (c f : Str) (ns : List Str) (ds : List D) (H0 : Hp) (σ : L2.St) (H : Hp) (ρ : DL.Env) (acc : List (D × D)) : Prop where
  st : StOk (gi m H) σ H ρ
  pl : kC ρ = true
  me : σ[0]? = some (some (.ref x))
  mg : m.mg c = some (.ref C)
  ob : ∃ vs, H x = some (.ins C dx ((ns ++ [f]).zip (vs ++ [.ref p]))) ∧ ns.length = vs.length ∧ RepL m H vs ds
  di : ∃ kvs, H p = some (.dK kvs) ∧ acc.map (·.1) = kvs.map (fun kv => keyD kv.1) ∧ RepL m H (kvs.map (·.2)) (acc.map (·.2))
  gx : GX x H0 H
  hp : H0 p = none
theorem KOk.next (k : KOk m x p C dx c f ns ds H0 σ H ρ acc) (k' : StOk (gi m H) σ' H' ρ') (h : kC ρ' = true) (h0 : σ'[0]? = σ[0]?) : KOk m x p C dx c f ns ds H0 σ' H' ρ' acc := by
  have kp := IOk.keeps k'
  obtain ⟨vs, a1, a2, a3⟩ := k.ob
  obtain ⟨kvs, b1, b2, b3⟩ := k.di
  exact ⟨rebase k' (kC_pl h) Stable.rfl, h, by rw [h0]; exact k.me, k.mg, ⟨vs, kp _ _ a1, a2, a3.st kp.stable⟩, ⟨kvs, kp _ _ b1, b2, b3.st kp.stable⟩, k.gx.trans fun a o _ e => kp a o e, k.hp⟩
theorem KOk.put (k : KOk m x p C dx c f ns ds H0 σ H ρ acc) {kk : Key} {v : V} {d : D} (hn : (acc.all fun q => !sameK (keyD kk) q.1) = true) (hl : acc.length < 1000) (r : Rep m H v d) :
    ∃ kvs, H p = some (.dK kvs) ∧ kvs.length = acc.length ∧ KOk m x p C dx c f ns ds H0 σ (upd H p (.dK (putK kvs kk v))) ρ (acc ++ [(keyD kk, d)]) := by
  obtain ⟨vs, a1, a2, a3⟩ := k.ob
  obtain ⟨kvs, b1, b2, b3⟩ := k.di
  have ll : kvs.length = acc.length := by
    have := congrArg List.length b2
    simpa using this.symm
  have ep : putK kvs kk v = kvs ++ [(kk, v)] := by
    unfold putK
    rw [if_neg]
    intro z
    obtain ⟨q, hq, e⟩ := List.any_eq_true.mp z
    have e : q.1 = kk := of_decide_eq_true e
    have : keyD kk ∈ acc.map (·.1) := by rw [b2]; exact List.mem_map.mpr ⟨q, hq, by rw [e]⟩
    obtain ⟨w, hw, e2⟩ := List.mem_map.mp this
    have := List.all_eq_true.mp hn w hw
    rw [e2, same_key] at this
    simp at this
  have st : Stable H (upd H p (.dK (putK kvs kk v))) := Stable.upd b1 id
  have nx : x ≠ p := fun z => by rw [z, b1] at a1; cases a1
  refine ⟨kvs, b1, ll, rebase k.st (kC_pl k.pl) st, k.pl, k.me, k.mg, ⟨vs, by rw [upd_ne nx]; exact a1, a2, a3.st st⟩, ⟨_, upd_same, ?_, ?_⟩, fun a o na e => ?_, k.hp⟩
  · rw [ep, List.map_append, List.map_append, b2]; rfl
  · have z := (b3.st st).append (RepL.cons (r.st st) .nil)
    have e1 : (putK kvs kk v).map (·.2) = kvs.map (·.2) ++ [v] := by rw [ep, List.map_append]; rfl
    rw [e1, List.map_append]
    exact z
  · have np : a ≠ p := fun z => by rw [z, k.hp] at e; cases e
    rw [upd_ne np]
    exact k.gx a o na e
end
/-- keys of a list of pairs -/
def dicOf (acc : List (D × D)) : D := .dic (acc.map (·.1)) (acc.map (·.2))
def kStep {α β : Type} (f : M α) (k : α → M β) : M β := fun ρ => match f ρ with
  | .ok a ρ' => if kC ρ' = true then k a ρ' else .stuck
  | .exc c ρ' => .exc c ρ'
  | .stuck => .stuck
def kinBody (t : TgF) (f1 fk f2 : M D) (acc : List (D × D)) : M (List (D × D)) := kStep f1 fun d1 ρ => match t d1 ρ with
  | some ρ1 => if kC ρ1 = true then kStep f2 (fun d2 => kStep fk fun dk => if isK dk = true ∧ (acc.all fun q => !sameK dk q.1) = true ∧ acc.length < 1000 then pureM (acc ++ [(dk, d2)]) else stuckM) ρ1 else .stuck
  | none => .stuck
def kinGo (iy : Nat) (t : TgF) (f1 fk f2 : M D) : List D → List (D × D) → M (List (D × D))
  | [], acc => pureM acc
  | d :: ds, acc => fun ρ => if kC (ρ.set iy (.d d)) = true then bindM (kinBody t f1 fk f2 acc) (fun acc' => kinGo iy t f1 fk f2 ds acc') (ρ.set iy (.d d)) else .stuck
def kinEnd (c f : Str) (ns : List Str) (ds : List D) : Res (List (D × D)) → Res Flow
  | .ok acc ρ => if iniC (ρ.set 0 (.d (.ins c (ns ++ [f]) (ds ++ [dicOf acc])))) = true ∧ ρ ≠ [] then .ok .nx (ρ.set 0 (.d (.ins c (ns ++ [f]) (ds ++ [dicOf acc])))) else .stuck
  | .exc e ρ => .exc e ρ
  | .stuck => .stuck
/-- self.f = {} ; for y in it: t = e1 ; self.f[k] = e2 -/
def kinM (c f : Str) (iy : Nat) (fi : M (List D)) (t : TgF) (f1 fk f2 : M D) : MS := fun ρ => match (ρ[0]? : Option Sl) with
  | some (.d (.ins c' ns ds)) => if c' = c ∧ f ∉ ns ∧ ns.length < 1000 ∧ kC (ρ.set 0 .no) = true then kinEnd c' f ns ds (kStep fi (fun xs => kinGo iy t f1 fk f2 xs []) (ρ.set 0 .no)) else .stuck
  | _ => .stuck
section
variable {m : Md} {G : Gh} {x p C dx : Addr} {c f : Str} {ns : List Str} {ds : List D} {acc : List (D × D)} {σ σ' : L2.St} {H0 H H' : Hp} {ρ ρ' : DL.Env} {W : WX} {E : Ends} {α β : Type}
/-- behind the loop -/
theorem KOk.done (k : KOk m x p C dx c f ns ds H0 σ H ρ acc) (hf : f ∉ ns) (q : iPost m W x C dx H0 (kinEnd c f ns ds (.ok acc ρ)) E) : ∃ a u, H a = some u ∧ Mut (some u) ∧ ∀ o, E.nx σ (upd H a (.frz o u)) := by
  obtain ⟨vs, a1, a2, a3⟩ := k.ob
  obtain ⟨kvs, b1, b2, b3⟩ := k.di
  refine ⟨p, _, b1, trivial, fun o => ?_⟩
  unfold kinEnd at q
  dsimp only at q
  by_cases cc : iniC (ρ.set 0 (.d (.ins c (ns ++ [f]) (ds ++ [dicOf acc])))) = true ∧ ρ ≠ []
  · rw [if_pos cc] at q
    obtain ⟨cc, ne⟩ := cc
    have h0 : 0 < ρ.length := List.length_pos_iff.mpr ne
    obtain ⟨i1, i2, c3, ns3, ds3, i3, i4⟩ := iniC_get cc
    rw [List.getElem?_set_self h0] at i3; cases i3
    have st : Stable H (upd H p (.frz o (.dK kvs))) := Stable.upd b1 id
    have nx : x ≠ p := fun z => by rw [z, b1] at a1; cases a1
    refine q _ _ _ σ _ ?_ ⟨?_, ?_, i1, k.me, by rw [List.getElem?_set_self h0], k.mg, i4, ⟨vs ++ [.ref p], by rw [upd_ne nx]; exact a1, by simp [a2], ?_⟩⟩
    · intro a o2 na e
      have np : a ≠ p := fun z => by rw [z, k.hp] at e; cases e
      rw [upd_ne np]; exact k.gx a o2 na e
    · rw [List.length_set]; exact k.st.len
    · intro i d hi e
      refine ⟨i2 i d hi e, ?_⟩
      rw [List.getElem?_set_ne (by omega)] at e
      obtain ⟨v, e1, e2⟩ := k.st.dat i d e
      exact ⟨v, e1, e2.st st⟩
    · refine (a3.st st).append (.cons ?_ .nil)
      unfold dicOf
      rw [b2]
      exact .dicK upd_same (b3.st st)
  · rw [if_neg cc] at q; exact q.elim
theorem kStep_run {g : M α} {k : α → M β} {fin : Res β → Res Flow} (hx : ∀ e ρ, fin (.exc e ρ) = .exc e ρ) (hs : fin .stuck = .stuck) (K : KOk m x p C dx c f ns ds H0 σ H ρ acc) (q : iPost m W x C dx H0 (fin (kStep g k ρ)) E) :
    postG (gi m H) W σ H (g ρ) fun a ρ' H' => KOk m x p C dx c f ns ds H0 σ H' ρ' acc ∧ iPost m W x C dx H0 (fin (k a ρ')) E := by
  unfold kStep at q
  cases e : g ρ with
  | ok a ρ' =>
    rw [e] at q
    by_cases h : kC ρ' = true
    · simp only [h, if_true] at q
      exact fun H' s' k' => ⟨K.next k' h rfl, q⟩
    · dsimp only at q; rw [if_neg h, hs] at q; exact q.elim
  | exc e2 ρ' =>
    rw [e] at q
    dsimp only at q
    rw [hx] at q
    intro C' H' he s' k'
    exact q σ C' H' he (K.gx.trans fun a o _ z => IOk.keeps k' a o z)
  | stuck => rw [e] at q; dsimp only at q; rw [hs] at q; exact q.elim
end
end DL
end
section
namespace DL
open PySem PySem.Spec L2 DLS
open PyProof.Rows hiding St
theorem lookup_last {f : Str} {v : V} : ∀ {ns : List Str} {vs : List V}, ns.length = vs.length → f ∉ ns → ((ns ++ [f]).zip (vs ++ [v])).lookup f = some v
  | [], [], _, _ => by simp [List.lookup]
  | [], _ :: _, h, _ => by simp at h
  | _ :: _, [], h, _ => by simp at h
  | n :: ns, w :: vs, h, nf => by
    have ne : ¬ f = n := fun z => nf (by rw [z]; exact List.mem_cons_self)
    have e : (f == n) = false := beq_eq_false_iff_ne.mpr ne
    rw [List.cons_append, List.cons_append, List.zip_cons_cons, List.lookup_cons, e]
    exact lookup_last (by simpa using h) fun z => nf (List.mem_cons_of_mem _ z)
def contR {α β : Type} (k : α → M β) : Res α → Res β
  | .ok a ρ => k a ρ
  | .exc c ρ => .exc c ρ
  | .stuck => .stuck
theorem bind_cont {α β : Type} (a : M α) (k : α → M β) (ρ : DL.Env) : bindM a k ρ = contR k (a ρ) := by
  unfold bindM contR
  cases a ρ <;> rfl
section
variable {X : Cx} {m : Md} {W : WX}
theorem is_kinds (iy : Nat) {c f s0 y : Str} {fs : List Str} {js : List Nat} {iter tg e1 e2 ek : Expr} {fi : M (List D)} {t : TgF} {f1 fk f2 : M D} {p0 p1 p2 p3 p4 p5 p6 p7 p8 p9 pos : Pos} (hi0 : 0 < iy) (hm0 : m = ⟨X.K, X.mg, X.w⟩) (T : ClsD X.K X.mg c fs) (hf : f ∈ fs) (hu : X.A.units + 1 < cLine)
    (hp : PassesOwn (model X.prog X.w) X.A X.env X.xe) (hc : X.calm = true) (hN : X.N.Nodup) (hN0 : X.N[0]? = some s0) (hy : X.N[iy]? = some y) (hl : Loc X.env.scope y) (hj : 0 ∉ js)
    (hi : ∀ h, DI X (gi m h) W (.Name y p3) iter fi) (h1 : ∀ h, DE X (gi m h) W e1 f1) (hg : ∀ h, DGt X (gi m h) tg js t) (hk : ∀ h, DE X (gi m h) W ek fk) (h2 : ∀ h, DE X (gi m h) W e2 f2)
    (hvis : Vis X.env.scope s0 := by first | exact .inl rfl | exact .inr (.inl rfl) | exact .inr (.inr rfl)) (hd : (s0 == ("__debug__" : Str)) = false := by decide) (hcd : (s0 == ("__classdict__" : Str)) = false := by decide)
    (hfn : X.fn y = true ∨ X.env.scope.names.lookup y = some .local := by first | exact .inl rfl | exact .inr rfl | assumption)
    (hs1 : swapsWith (.Dict [] [] p2) (some (.Attribute (.Name s0 p0) f p1)) pos.line X.env = pure false := by rfl)
    (hsi : ∀ v, foldedSetIterable iter X.env v = pure v := by intro _; rfl)
    (hs2 : swapsWithSole [tg] e1 p4.line X.env = pure false := by rfl) (hw2 : swappedStores [tg] e1 X.env = pure none := by rfl) (ha2 : (assignEach [tg] X.env).map (·.2) = [assign tg X.env] := by rfl)
    (hb : attributeBase (.Name s0 p5) f X.env (eval (.Name s0 p5) X.env) = eval (.Name s0 p5) X.env := by rfl)
    (hs3 : swapsWith e2 (some (.Subscript (.Attribute (.Name s0 p5) f p6) ek p7)) p8.line X.env = pure false := by rfl) :
    ISs X m W [.Assign [.Attribute (.Name s0 p0) f p1] (.Dict [] [] p2) pos, .For (.Name y p3) iter [.Assign [tg] e1 p4, .Assign [.Subscript (.Attribute (.Name s0 p5) f p6) ek p7] e2 p8] [] p9] (kinM c f iy fi t f1 fk f2) := by
  obtain ⟨C0, t1, t2, t3⟩ := T.ex
  have h1E : PE X e1 (fun σ H Q => ∃ h, dT (gi m h) W f1 σ H Q) := ⟨fun pins s σ H Q I ⟨h, q⟩ => (h1 h).run pins s σ H Q I q⟩
  have h2E : PE X e2 (fun σ H Q => ∃ h, dT (gi m h) W f2 σ H Q) := ⟨fun pins s σ H Q I ⟨h, q⟩ => (h2 h).run pins s σ H Q I q⟩
  have hkE : PE X ek (fun σ H Q => ∃ h, dT (gi m h) W fk σ H Q) := ⟨fun pins s σ H Q I ⟨h, q⟩ => (hk h).run pins s σ H Q I q⟩
  have hgE : PG X tg (fun v σ H Q => ∃ h, tgT (gi m h) js t v σ H Q) := ⟨fun pins s σ H v u Q I r ⟨h, q⟩ => (hg h).run pins s σ H v u Q I r q⟩
  have hiE : PI X (.Name y p3) iter (fun σ H R => ∃ h, iT (gi m h) W fi σ H R) := ⟨fun pins s σ H R I ⟨h, q⟩ => (hi h).run pins s σ H R I q⟩
  refine pss_imp (pss_cons (ps_fld (pe_var (i := 0) hN0 hvis hd hcd) pe_dnewK hs1) (pss_one (ps_lock (ps_for hp hc hiE (pg_name (i := iy) hN hy hl hfn)
    (pss_cons (ps_asg h1E hgE hs2 hw2 ha2) (pss_one (ps_dput hu (pe_fld (pe_var (i := 0) hN0 hvis hd hcd) hb) hkE h2E hs3))) hsi)))) fun E σ H ⟨x, C, dx, c', ns, ds, ρ, k, q⟩ => ?_
  intro p hpn
  obtain ⟨vs, g1, g2, g3⟩ := k.ob
  have nx : x ≠ p := fun z => by rw [z, hpn] at g1; cases g1
  unfold kinM at q
  rw [k.s0] at q
  dsimp only at q
  by_cases cc : c' = c ∧ f ∉ ns ∧ ns.length < 1000 ∧ kC (ρ.set 0 .no) = true
  · rw [if_pos cc] at q
    obtain ⟨e1, nf, e4, kc⟩ := cc
    subst e1
    have mg : m.mg c' = some (.ref C) := k.mg
    have mg2 := mg
    rw [hm0] at mg2
    have mg2 : X.mg c' = some (.ref C) := mg2
    rw [t1] at mg2; cases mg2
    refine ⟨_, k.me, x, C0, dx, ns.zip vs, rfl, by rw [upd_ne nx]; exact g1, t2, t3 f hf, by rw [List.length_zip, ← g2, Nat.min_self]; exact e4, ?_⟩
    rw [putF_new g2 nf]
    have gx : GX x H (upd (upd H p (.dK [])) x (.ins C0 dx ((ns ++ [f]).zip (vs ++ [.ref p])))) := fun b o nb e => by
      have nb2 : b ≠ p := fun z => by rw [z, hpn] at e; cases e
      rw [upd_ne nb, upd_ne nb2]; exact e
    have hx : ∃ C dx fs, H x = some (.ins C dx fs) := ⟨_, _, _, g1⟩
    have K : KOk m x p C0 dx c' f ns ds H σ (upd (upd H p (.dK [])) x (.ins C0 dx ((ns ++ [f]).zip (vs ++ [.ref p])))) (ρ.set 0 .no) [] := by
      refine ⟨⟨by rw [List.length_set]; exact k.len, fun i d e => ?_, fun i xs e => ?_, fun i j xs ys a _ e => ?_, fun p hp => absurd hp List.not_mem_nil, fun a o e _ => e, fun i c e => ?_⟩, kc, k.me, mg, ⟨vs, upd_same, g2, RepL.gx gx hx k.nof g3⟩, ⟨[], by rw [upd_ne nx.symm]; exact upd_same, rfl, .nil⟩, gx, hpn⟩
      · cases i with
        | zero =>
          have h0 : 0 < ρ.length := (List.getElem?_eq_some_iff.mp k.s0).1
          rw [List.getElem?_set_self h0] at e; cases e
        | succ i =>
          rw [List.getElem?_set_ne (by omega)] at e
          obtain ⟨n1, v, e1, e2⟩ := k.dat _ d (Nat.succ_pos i) e
          exact ⟨v, e1, e2.gx gx hx n1⟩
      · have := kC_pl kc i _ e; simp [plain] at this
      · have := kC_pl kc i _ e; simp [plain] at this
      · have := kC_pl kc i _ e; simp [plain] at this
    refine ⟨_, _, K.st, (kStep_run (fin := kinEnd c' f ns ds) (fun _ _ => rfl) rfl K q).mono fun xs ρ1 H1 _ s1 k1 ⟨K1, q1⟩ J io => ?_⟩
    refine ⟨fun j n σ' H' => n = xs.length - j ∧ j ≤ xs.length ∧ Stable H1 H' ∧ ∃ acc ρ', KOk m x p C0 dx c' f ns ds H σ' H' ρ' acc ∧ iPost m W x C0 dx H (kinEnd c' f ns ds (kinGo iy t f1 fk f2 (xs.drop j) acc ρ')) E, ⟨_, rfl, Nat.zero_le _, Stable.rfl, [], ρ1, K1, q1⟩, ?_⟩
    rintro j n σ' H' ⟨rfl, hjl, st, acc, ρ', K', q'⟩
    by_cases lt : j < xs.length
    · refine .inr ⟨io.go j H' st lt, fun σ2 H2 => Stable H1 H2 ∧ ∃ acc ρ2, KOk m x p C0 dx c' f ns ds H σ2 H2 ρ2 acc ∧ iPost m W x C0 dx H (kinEnd c' f ns ds (kinGo iy t f1 fk f2 (xs.drop (j + 1)) acc ρ2)) E, fun σ2 H2 ⟨w1, w2⟩ => ⟨xs.length - (j + 1), by omega, rfl, lt, w1, w2⟩, fun v H2 z => ?_⟩
      obtain ⟨e2, d, hd, rd⟩ := io.yld j H' v H2 st lt z
      subst e2
      have ed : xs.drop j = d :: xs.drop (j + 1) := by
        rw [List.drop_eq_getElem_cons lt]
        rw [List.getElem?_eq_getElem lt] at hd
        injection hd with hd
        rw [hd]
      rw [ed] at q'
      unfold kinGo at q'
      by_cases c1 : kC (ρ'.set iy (.d d)) = true
      · simp only [c1, if_true] at q'
        rw [bind_cont] at q'
        unfold kinBody at q'
        have K3 := K'.next (K'.st.setD (fun q hq => absurd hq List.not_mem_nil) rd) c1 (by rw [List.getElem?_set_ne (by omega)])
        refine ⟨_, _, K3.st, (kStep_run (fin := fun r => kinEnd c' f ns ds (contR _ r)) (fun _ _ => rfl) rfl K3 q').mono fun d1 ρ4 H4 _ s4 k4 ⟨K4, q4⟩ v1 r1 => ?_⟩
        cases et : t d1 ρ4 with
        | none => simp only [et] at q4; exact q4.elim
        | some ρ5 =>
          simp only [et] at q4
          by_cases c5 : kC ρ5 = true
          · rw [if_pos c5] at q4
            refine ⟨_, ρ4, d1, ρ5, K4.st, r1, et, fun σ5 H5 sb s5 k5 => ?_⟩
            have K5 := K4.next k5 c5 (sb.2 0 hj)
            refine ⟨_, _, K5.st, (kStep_run (fin := fun r => kinEnd c' f ns ds (contR _ r)) (fun _ _ => rfl) rfl K5 q4).mono fun d2 ρ6 H6 _ s6 k6 ⟨K6, q6⟩ v2 r2 => ?_⟩
            obtain ⟨ws, o1, o2, o3⟩ := K6.ob
            refine ⟨_, K6.me, x, C0, dx, _, .ref p, rfl, o1, t2, t3 f hf, lookup_last o2 nf, ?_⟩
            refine ⟨_, _, K6.st, (kStep_run (fin := fun r => kinEnd c' f ns ds (contR _ r)) (fun _ _ => rfl) rfl K6 q6).mono fun dk ρ7 H7 _ s7 k7 ⟨K7, q7⟩ vk rk => ?_⟩
            by_cases c7 : isK dk = true ∧ (acc.all fun q => !sameK dk q.1) = true ∧ acc.length < 1000
            · rw [if_pos c7] at q7
              obtain ⟨i1, i2, i3⟩ := c7
              obtain ⟨kk, ek1, ek2⟩ := key_rep rk i1
              subst ek1 ek2
              obtain ⟨kvs, b1, b2, K8⟩ := K7.put i2 i3 (r2.st s7)
              refine ⟨p, _, rfl, DPut.k b1 (by rw [b2]; exact Nat.lt_of_lt_of_le i3 (by decide)), ?_⟩
              have st8 : Stable H7 (upd H7 p (.dK (putK kvs kk v2))) := Stable.upd b1 id
              exact ⟨((((st.trans s4).trans s5).trans s6).trans s7).trans st8, _, ρ7, K8, q7⟩
            · rw [if_neg c7] at q7; exact q7.elim
          · rw [if_neg c5] at q4; exact q4.elim
      · simp only [c1, if_false] at q'; exact q'.elim
    · have hj2 : xs.length ≤ j := by omega
      rw [List.drop_of_length_le hj2] at q'
      exact .inl ⟨io.stop j H' st hj2, K'.done nf q'⟩
  · rw [if_neg cc] at q; exact q.elim
end
end DL
end
section
namespace DL
open PySem PySem.Spec L2 DLS
open PyProof.Rows hiding St
/-! ### what __init__ promises -/
/-- the slots at the start of __init__ -/
def iniE (n : Nat) (c : Str) (as : List D) : DL.Env := .d (.ins c [] []) :: (as.map .d ++ List.replicate (n - (as.length + 1)) .no)
def iniF (n : Nat) (c : Str) (body : MS) (as : List D) : Res D := match body (iniE n c as) with
  | .ok .nx ρ => match (ρ[0]? : Option Sl) with
    | some (.d d) => .ok d []
    | _ => .stuck
  | .exc e _ => .exc e []
  | _ => .stuck
def iniP (m : Md) (x : Addr) (H : Hp) (r : Res D) (Q : VK) (E : XK) : Prop := match r with
  | .ok d _ => ∀ H', GX x H H' → Rep m H' (.ref x) d → Q .non H'
  | .exc e _ => ∀ C' H', m.mg e = some (.ref C') → GX x H H' → E (.ref C') none H'
  | .stuck => False
def spI (m : Md) (c : Str) (k : Nat) (fI : List D → Res D) : Sp := fun vs H Q E => ∃ x C dx ws as, vs = .ref x :: ws ∧ as.length = k ∧ m.mg c = some (.ref C) ∧ H x = some (.ins C dx []) ∧ RepL m H ws as ∧ noInsL as = true ∧ iniP m x H (fI as) Q E
theorem RepL.at_ {m : Md} {H : Hp} : ∀ {vs : List V} {ds : List D}, RepL m H vs ds → noInsL ds = true → ∀ (i : Nat) (d : D), ds[i]? = some d → noIns d = true ∧ ∃ v, vs[i]? = some v ∧ Rep m H v d
  | _, _, .nil, _, i, d, e => by simp at e
  | _, _, .cons a b, n, 0, d, e => by
    rw [noInsL, Bool.and_eq_true] at n
    simp at e; subst e
    exact ⟨n.1, _, rfl, a⟩
  | _, _, .cons a b, n, i + 1, d, e => by
    rw [noInsL, Bool.and_eq_true] at n
    exact RepL.at_ b n.2 i d (by simpa using e)
theorem ini_start {m : Md} {x C dx : Addr} {c : Str} {n : Nat} {H : Hp} {ws : List V} {as : List D} (hm : m.mg c = some (.ref C)) (hx : H x = some (.ins C dx [])) (r : RepL m H ws as) (nn : noInsL as = true) :
    IOk m x C dx c [] [] ((V.ref x :: ws).map some ++ List.replicate (n - (V.ref x :: ws).length) none) H (iniE n c as) := by
  have hl := r.len
  have hl : ws.length = as.length := hl
  refine ⟨by simp [iniE, hl], fun i d hi e => ?_, fun i s e => ?_, rfl, rfl, hm, rfl, ⟨[], hx, rfl, .nil⟩⟩
  · obtain ⟨i, rfl⟩ : ∃ j, i = j + 1 := ⟨i - 1, by omega⟩
    have e : (as.map Sl.d ++ List.replicate (n - (as.length + 1)) Sl.no)[i]? = some (.d d) := e
    by_cases lt : i < as.length
    · rw [List.getElem?_append_left (by simpa using lt), List.getElem?_map] at e
      cases ea : as[i]? with
      | none => rw [ea] at e; cases e
      | some d2 =>
        rw [ea] at e; cases e
        obtain ⟨n1, v, e1, e2⟩ := r.at_ nn i d ea
        refine ⟨n1, v, ?_, e2⟩
        show ((ws.map some ++ List.replicate _ none))[i]? = _
        rw [List.getElem?_append_left (by simp; omega), List.getElem?_map, e1]; rfl
    · rw [List.getElem?_append_right (by simpa using lt)] at e
      have := List.mem_of_getElem? e
      rw [List.mem_replicate] at this
      cases this.2
  · have := List.mem_of_getElem? e
    unfold iniE at this
    rw [List.mem_cons, List.mem_append, List.mem_map, List.mem_replicate] at this
    rcases this with h | ⟨d, _, h⟩ | ⟨_, h⟩
    · subst h; rfl
    · subst h; rfl
    · subst h; rfl
end DL
end
section
namespace DL
open PySem PySem.Spec L2 DLS
open PyProof.Rows hiding St
/-- THE RULE for __init__ -/
theorem ini_ok {P : Program} {w : World} {K : PySem.W.Frag} {mg : Str → Option Value} {base : Heap} {k n : Nat} {f : Addr} {fd : FuncData} {N ps : List Str} {x qual c : Str} {params : Arguments} {body : List Stmt} {scope : Scope} {bm : MS}
    (F : FunD K x qual params body scope [] [] f fd) (S : FnScope N ps scope) (hn : n + 1 = ps.length)
    (D : ∀ (cdv : Value) (A : Around) (outer : List PySem.Env) (s : Shared) (H : Hp) (E : XK), Room k (A.deeper (envOfC qual scope s.heap.objs.size f cdv)) →
      Takes (cxOf (L2.CX P w) P w K mg base N qual scope f cdv A outer s H E) (fun cls d _ H => E cls d H) → ISs (cxOf (L2.CX P w) P w K mg base N qual scope f cdv A outer s H E) ⟨K, mg, w⟩ (fun cls d _ H => E cls d H) body bm) :
    FnOk P w K mg base (L2.CX P w) (k + 1) f fd ps (spI ⟨K, mg, w⟩ c n (iniF N.length c bm)) := by
  refine F.ok S (fun vs H Q E h => ?_) (fun cdv A outer s H vs Q E hr h => ?_)
  · obtain ⟨y, C, dx, ws, as, h1, h2, h3, h4, h5, h6, h7⟩ := h
    rw [h1, ← hn, List.length_cons, h5.len, h2]
  · obtain ⟨y, C, dx, ws, as, h1, h2, h3, h4, h5, h6, h7⟩ := h
    subst h1
    refine ⟨_, D cdv A outer s H E hr (takes_of rfl rfl rfl rfl), y, C, dx, c, [], [], _, ini_start h3 h4 h5 h6, ?_⟩
    unfold iniF at h7
    cases e : bm (iniE N.length c as) with
    | ok fl ρ' =>
      rw [e] at h7
      cases fl with
      | nx =>
        intro c2 ns ds σ' H' g k'
        obtain ⟨vs2, a1, a2, a3⟩ := k'.ob
        dsimp only at h7
        rw [k'.s0] at h7
        exact h7 H' g (.ins k'.mg a1 a2 a3)
      | _ => exact h7.elim
    | exc e2 ρ' =>
      rw [e] at h7
      exact fun σ' C' H' he g => h7 C' H' he g
    | stuck => rw [e] at h7; exact h7.elim
section
variable {X : Cx} {CX : CXT} {k i : Nat} {f C : Addr} {fd : FuncData} {ps : List Str} {sp : Sp} {E : L2.St → XK} {x m : Str} {p pos apos : Pos} {e o : Expr} {es : List Expr} {ta : TE} {t : TA}
theorem run_makeS {pins : List (Addr × Obj)} {σ : L2.St} {H : Hp} {s : Shared} {Q : VK} {us : List Value} {vs : List V} (M : Mk X.K C f) (F : FnOk X.prog X.w X.K X.mg X.base CX k f fd ps sp) (hr : Room (k + 1) X.A) (hb : Binds X.K fd ps [])
    (hx : PassesAt CX X σ (E σ)) (I : Inv X pins σ H s) (r : Vals vs us)
    (h : ∀ x dx, H x = none → H dx = none → dx ≠ x → sp (.ref x :: vs) (upd (upd H dx (.own x)) x (.ins C dx [])) (fun v H2 => v = .non ∧ Q (.ref x) H2) (E σ)) :
    wpAny (model X.prog X.w) X.A (call (.ref C) us) (EP X pins σ Q) X.xe s := by
  have hq := h (s.heap.objs.size + 1) s.heap.objs.size (I.hok.fresh (Nat.le_succ _)) (I.hok.fresh (Nat.le_refl _)) (Nat.ne_of_lt (Nat.lt_succ_self _))
  have I2 := Inv.made (C := C) I
  have r2 : Vals (V.ref (s.heap.objs.size + 1) :: vs) (Value.ref (s.heap.objs.size + 1) :: us) := .cons rfl r
  have hl : ((Value.ref (s.heap.objs.size + 1) :: us) ++ []).length = ps.length := by
    have e := r2.length
    rw [F.len _ _ _ _ hq] at e
    rw [List.append_nil]; exact e.symm
  have b := hb _ (Value.ref (s.heap.objs.size + 1) :: us) I2.kIn hl
  rw [List.append_nil] at b
  refine wpAny_call (make_map (f := f) I.kIn M.makes M.init (beq_iff_eq.mp M.fn) (codeAny_mono (F.run _ X.stack _ _ ⟨Value.ref (s.heap.objs.size + 1) :: us, []⟩ (Value.ref (s.heap.objs.size + 1) :: us) _ _ (E σ) (hr.make C us [])
    (I2.env0.make C us []) b r2 hq) fun r s' hq' => ?_))
  cases r with
  | error e => exact hx pins _ _ e s' I2 hq'
  | ok fl =>
    cases fl with
    | ret u =>
      obtain ⟨v, H', I3, rv, ev, q3⟩ := I2.after hq'
      subst ev
      exact ⟨rv, ⟨V.ref (s.heap.objs.size + 1), H', I3, rfl, q3⟩⟩
    | next => exact False.elim hq'
    | brk => exact False.elim hq'
    | cont => exact False.elim hq'
def tMakeS (C : Addr) (sp : Sp) (E : L2.St → XK) (t : TA) : TE := fun σ H Q => t σ H fun vs H1 => ∀ x dx, H1 x = Option.none → H1 dx = Option.none → dx ≠ x →
  sp (V.ref x :: vs) (upd (upd H1 dx (.own x)) x (.ins C dx [])) (fun v H2 => v = .non ∧ Q (.ref x) H2) (E σ)
theorem pe_makeS (M : Mk X.K C f) (F : FnOk X.prog X.w X.K X.mg X.base CX k f fd ps sp) (hr : Room (k + 1) X.A) (hg : Gl X x) (hm : X.mg x = some (.ref C)) (hb : Binds X.K fd ps []) (hx : ∀ σ, PassesAt CX X σ (E σ))
    (ha : PA X (e :: es) t) (hdb : (x == ("__debug__" : Str)) = false := by decide) (he : starEach (e :: es) X.env = (false, eval e X.env) :: starEach es X.env := by rfl) (hpl : (backTo pos (starEach es X.env)).any (·.1) = false := by rfl) :
    PE X (.Call (.Name x p) (e :: es) [] pos) (tMakeS C sp E t) := by
  refine ⟨fun pins s σ H Q I h => ?_⟩
  refine wpAny_Call_Name_kw (ld_glob I hg hm ?_ hdb)
  refine PySem.W.callWith_K (h₀ := X.base) I.ok.mod.kin M.kp (thn (ha.run pos pins s σ H _ I h) fun us s1 ⟨vs, H1, I1, r, q⟩ => ⟨I1.kIn, ?_⟩) he hpl
  exact run_makeS M F hr hb (hx σ) I1 r q
end
/-- a class of the text that is made -/
structure DMk (P : Program) (w : World) (K : PySem.W.Frag) (mg : Str → Option Value) (base : Heap) (c : Str) (k n : Nat) (fI : List D → Res D) : Prop where
  ex : ∃ C fA fd ps, mg c = some (.ref C) ∧ Mk K C fA ∧ Binds K fd ps [] ∧ FnOk P w K mg base (L2.CX P w) k fA fd ps (spI ⟨K, mg, w⟩ c n fI)
def makeM (n : Nat) (fI : List D → Res D) (fa : M (List D)) : M D := bindM fa fun as ρ => if as.length = n ∧ noInsL as = true then (match fI as with
  | .ok d _ => .ok d ρ
  | .exc e _ => .exc e ρ
  | .stuck => .stuck) else .stuck
theorem de_make {X : Cx} {G : Gh} {W : WX} {j k n : Nat} {c : Str} {p pos : Pos} {e : Expr} {es : List Expr} {fI : List D → Res D} {fa : M (List D)} (hm0 : G.m = ⟨X.K, X.mg, X.w⟩) (tk : Takes X W) (T : DMk X.prog X.w X.K X.mg X.base c j n fI) (hr : Room (k + 1) X.A) (hk : j ≤ k) (hg : Gl X c) (ha : DA X G W (e :: es) fa)
    (hdb : (c == ("__debug__" : Str)) = false := by decide) (he : starEach (e :: es) X.env = (false, eval e X.env) :: starEach es X.env := by rfl) (hpl : (backTo pos (starEach es X.env)).any (·.1) = false := by rfl) :
    DE X G W (.Call (.Name c p) (e :: es) [] pos) (makeM n fI fa) := by
  obtain ⟨C, fA, fd, ps, h1, h2, h3, h4⟩ := T.ex
  refine pe_imp (pe_makeS h2 (h4.mono hk) hr hg h1 h3 (fun σ => passAt tk σ) ha hdb he hpl) fun σ H Q ⟨ρ, k0, q⟩ => ⟨ρ, k0, q.bind.mono fun as ρ1 H1 _ s1 k1 q1 vs rs => ?_⟩
  intro x dx hx hdx ne
  by_cases cc : as.length = n ∧ noInsL as = true
  · rw [if_pos cc] at q1
    have g1 : Grow H1 (upd (upd H1 dx (.own x)) x (.ins C dx [])) := (Grow.new hdx).trans (Grow.new (by rw [upd_ne ne.symm]; exact hx))
    rw [hm0] at rs
    refine ⟨x, C, dx, vs, as, rfl, cc.1, h1, upd_same, rs.st g1.stable, cc.2, ?_⟩
    have gr : ∀ {H2 : Hp}, GX x (upd (upd H1 dx (.own x)) x (.ins C dx [])) H2 → Grow H1 H2 := fun g a o ea => by
      have na : a ≠ x := fun z => by rw [z, hx] at ea; cases ea
      exact g a o na (g1 a o ea)
    cases ef : fI as with
    | ok d ρ2 =>
      rw [ef] at q1
      intro H2 g r2
      rw [← hm0] at r2
      exact ⟨rfl, q1 H2 (gr g).stable (k1.grow (gr g)) _ r2⟩
    | exc e2 ρ2 =>
      rw [ef] at q1
      intro C2 H2 he2 g
      rw [← hm0] at he2
      exact q1 C2 H2 he2 (gr g).stable (k1.grow (gr g))
    | stuck => rw [ef] at q1; exact q1.elim
  · rw [if_neg cc] at q1; exact q1.elim
end DL
end
section
namespace DL
open PySem PySem.Spec L2 DLS
open PyProof.Rows hiding St
/-! ### classes of the text, from the head's facts -/
abbrev BindsM (nm q : Str) (st : Stmt) (ps : List Str) : Prop := ∀ (kV doc pm : Value) (an : Option Addr) (cdv ct : Value) (us : List Value), us.length = ps.length → bindArgs (PySem.W.fnOf nm q (defArgs st) (defBody st) (defScope st) .none kV doc pm an cdv ct) ⟨us, []⟩ = pure (ps.zip us)
/-- a method's function -/
def MethIn (K : PySem.W.Frag) (mg : Str → Option Value) (c nm q : Str) (st : Stmt) (fA : Addr) (fd : FuncData) : Prop := ∃ C, mg c = some (.ref C) ∧ Cls K C ∧ Meth K C nm fA ∧ FunD K nm q (defArgs st) (defBody st) (defScope st) [] [] fA fd
def InitIn (K : PySem.W.Frag) (mg : Str → Option Value) (c q : Str) (st : Stmt) (fA : Addr) (fd : FuncData) : Prop := ∃ C, mg c = some (.ref C) ∧ Mk K C fA ∧ FunD K "__init__" q (defArgs st) (defBody st) (defScope st) [] [] fA fd
section
variable {fa : List He.Fa} {fn : List He.DefD} {K : PySem.W.Frag} {h : Heap} {mg : Str → Option Value}
theorem cls_in (X : K.In h) (G : h.Ns mainGlobals mg) (c : He.SaysD fa fn K) {x : Str} {fs : List Str} (j1 j2 : Nat) (h1 : fa[j1]? = some (.glo x)) (h2 : fa[j2]? = some (.cls x)) (h3 : ∀ f ∈ fs, ∃ j : Nat, fa[j]? = some (He.Fa.noat x f)) : ClsD K mg x fs :=
  ⟨_, He.glo_ok X G (c.fact j1 h1), He.cls_ok (c.fact j2 h2), fun f hf => by
    obtain ⟨j, hj⟩ := h3 f hf
    exact He.noat_ok (c.fact j hj)⟩
theorem meth_in (X : K.In h) (G : h.Ns mainGlobals mg) (c : He.SaysD fa fn K) {x nm q : Str} {st : Stmt} (i j1 j2 j3 : Nat) (hi : fn[i]? = some ⟨(x, some nm), nm, q, defArgs st, defBody st, defScope st, [], []⟩) (h1 : fa[j1]? = some (.glo x)) (h2 : fa[j2]? = some (.cls x)) (h3 : fa[j3]? = some (.meth x nm)) :
    ∃ fA fd, MethIn K mg x nm q st fA fd := by
  obtain ⟨fd, F⟩ := c.def_ i hi
  exact ⟨_, fd, _, He.glo_ok X G (c.fact j1 h1), He.cls_ok (c.fact j2 h2), He.meth_ok (c.fact j3 h3), F⟩
theorem init_in (X : K.In h) (G : h.Ns mainGlobals mg) (c : He.SaysD fa fn K) {x q : Str} {st : Stmt} (i j1 j2 : Nat) (hi : fn[i]? = some ⟨(x, some "__init__"), "__init__", q, defArgs st, defBody st, defScope st, [], []⟩) (h1 : fa[j1]? = some (.glo x)) (h2 : fa[j2]? = some (.mkr x)) :
    ∃ fA fd, InitIn K mg x q st fA fd := by
  obtain ⟨fd, F⟩ := c.def_ i hi
  exact ⟨_, fd, _, He.glo_ok X G (c.fact j1 h1), He.mkr_ok (c.fact j2 h2), F⟩
end
section
variable {P : Program} {w : World} {K : PySem.W.Frag} {mg : Str → Option Value} {base : Heap} {c nm q : Str} {st : Stmt} {fA : Addr} {fd : FuncData} {k n : Nat} {N ps : List Str} {md : List Bool} {rm : RM} {bm : MS}
theorem dme_ok (Dn : MethIn K mg c nm q st fA fd) (S : FnScope N ps (defScope st)) (hmd : md.length = ps.length) (hb : BindsM nm q st ps)
    (D : ∀ (cdv : Value) (A : Around) (outer : List PySem.Env) (s : Shared) (H : Hp) (E : XK) (H0 : Hp) (pr : List (Nat × Addr)), (∀ i, md.getD i false = false → pfree ⟨⟨K, mg, w⟩, H0, pr, none⟩ i) → Room k (A.deeper (envOfC q (defScope st) s.heap.objs.size fA cdv)) →
      Takes (cxOf (L2.CX P w) P w K mg base N q (defScope st) fA cdv A outer s H E) (fun cls d _ H => E cls d H) → DSs (cxOf (L2.CX P w) P w K mg base N q (defScope st) fA cdv A outer s H E) ⟨⟨K, mg, w⟩, H0, pr, none⟩ (fun cls d _ H => E cls d H) .f (defBody st) bm) :
    DMe P w K mg base c nm (k + 1) md (fnM false N.length bm) := by
  obtain ⟨C, h1, h2, h3, F⟩ := Dn
  exact ⟨C, fA, fd, ps, h1, h2, h3, F.bindsN hb, fn_ok F S hmd D⟩
theorem dmk_ok (Dn : InitIn K mg c q st fA fd) (S : FnScope N ps (defScope st)) (hn : n + 1 = ps.length) (hb : BindsM "__init__" q st ps)
    (D : ∀ (cdv : Value) (A : Around) (outer : List PySem.Env) (s : Shared) (H : Hp) (E : XK), Room k (A.deeper (envOfC q (defScope st) s.heap.objs.size fA cdv)) →
      Takes (cxOf (L2.CX P w) P w K mg base N q (defScope st) fA cdv A outer s H E) (fun cls d _ H => E cls d H) → ISs (cxOf (L2.CX P w) P w K mg base N q (defScope st) fA cdv A outer s H E) ⟨K, mg, w⟩ (fun cls d _ H => E cls d H) (defBody st) bm) :
    DMk P w K mg base c (k + 1) n (iniF N.length c bm) := by
  obtain ⟨C, h1, h2, F⟩ := Dn
  exact ⟨C, fA, fd, ps, h1, h2, F.bindsN hb, ini_ok F S hn D⟩
end
end DL
end
section
namespace DL
open PySem PySem.Spec L2
theorem room_hv {k : Nat} {A : Around} (r : Room k A) : A.units + 130 < cLine := by have := r.un; omega
/-- sorted of a list, of a dict with text keys -/
def sortG (ds : List D) : Option (List D) := (sortL ds).or (sortK ds)
end DL
end
section
namespace DL
open PySem PySem.Spec L2 DLS
open PyProof.Rows hiding St
/-! ### containers of a def's own: lists and dicts -/
def cT (G : Gh) (W : WX) (f : M OC) : TE := fun σ H Q => ∃ ρ, StOk G σ H ρ ∧ postG G W σ H (f ρ) fun c ρ' H' => ∀ a o, H' a = some o → RepO G.m H' a o c → Fresh G σ ρ' a → Q (.ref a) H'
def DC (X : Cx) (G : Gh) (W : WX) (e : Expr) (f : M OC) : Prop := PE X e (cT G W f)
def ocL (f : M (List D)) : M OC := bindM f fun xs => pureM (.l xs)
def ocM (f : M OC) : M D := bindM f fun c => pureM (ocD c)
def setCM (i : Nat) (f : M OC) : MS := bindM f fun c ρ => .ok .nx (ρ.set i (.cell c))
def consC (f : M OC) (g : M (List Ag)) : M (List Ag) := bindM f fun c => bindM g fun r => pureM (.tmp c :: r)
def putC (i : Nat) (c : OC) : M Unit := fun ρ => .ok () (ρ.set i (.cell c))
def getC (i : Nat) : M OC := fun ρ => match ρ[i]? with
  | some (.cell c) => .ok c ρ
  | _ => .stuck
section
variable {X : Cx} {G : Gh} {W : WX} {e a b : Expr} {es : List Expr} {pos : Pos} {rm : RM}
theorem getC_run {i : Nat} {ρ : DL.Env} {σ : L2.St} {H : Hp} {β : Type} {k : OC → M β} {Q : β → DL.Env → Hp → Prop} (h : postG G W σ H (bindM (getC i) k ρ) Q) : ∃ c, ρ[i]? = some (.cell c) ∧ postG G W σ H (k c ρ) Q := by
  unfold bindM at h
  cases e : ρ[i]? with
  | none =>
    have e2 : getC i ρ = .stuck := by unfold getC; rw [e]
    rw [e2] at h; exact h.elim
  | some sl =>
    cases sl with
    | cell c =>
      have e2 : getC i ρ = .ok c ρ := by unfold getC; rw [e]
      rw [e2] at h; exact ⟨c, rfl, h⟩
    | _ =>
      have e2 : getC i ρ = .stuck := by unfold getC; rw [e]
      rw [e2] at h; exact h.elim
theorem dc_new : DC X G W (.Dict [] [] pos) (pureM (.k [] [])) := pe_imp pe_dnewK fun σ H Q ⟨ρ, k, q⟩ => fun p hp =>
  q _ (Grow.new hp).stable (k.grow (Grow.new hp)) p _ upd_same (.inl ⟨[], rfl, rfl, .nil⟩) (k.fresh hp)
/-- a container of its own as data: frozen -/
theorem de_fzC {f : M OC} (h : DC X G W e f) : DE X G W e (ocM f) := pe_imp (pe_fz h) fun σ H Q ⟨ρ, k, q⟩ => ⟨ρ, k, q.bind.mono fun c ρ1 H1 _ s1 k1 q1 a o ha hr hf => .inr ⟨a, _, rfl, ha, hr.mt, fun ob => by
  have st : Stable H1 (upd H1 a (.frz ob o)) := Stable.upd ha hr.nf
  exact q1 _ st (k1.upd hf fun u hu => nfix_of ha hr.nf hu) _ (hr.data ha)⟩⟩
theorem ds_setC (i : Nat) {x : Str} {f : M OC} {pos' : Pos} (hp : pfree G i) (hN : X.N.Nodup) (hi : X.N[i]? = some x) (hx : Loc X.env.scope x) (he : DC X G W e f) (hs : swapsWith e (some (.Name x pos')) pos.line X.env = pure false := by rfl) (hf : X.fn x = true ∨ X.env.scope.names.lookup x = some .local := by first | exact .inl rfl | exact .inr rfl | assumption) :
    DS X G W rm (.Assign [.Name x pos'] e pos) (setCM i f) := ps_imp (ps_set hN hi hx he hs hf) fun E σ H ⟨ρ, k, q⟩ => ⟨ρ, k, q.bind.mono fun c ρ1 H1 _ s1 k1 q1 a o ha r f => q1 _ H1 Stable.rfl (k1.setC hp ha r f)⟩
end

/-! ### own dicts with flat keys -/
def putF (x d : D) (ks vs : List D) : List D × List D :=
  if (ks.any fun k => sameK k x) = true then (ks, (ks.zip vs).map fun p => if sameK p.1 x = true then d else p.2) else (ks ++ [x], vs ++ [d])
theorem putF_rep {m : Md} {H : Hp} {d : D} {v : V} (rv : Rep m H v d) (k : Key) {kvs : List (Key × V)} {ds : List D} (r : RepL m H (kvs.map (·.2)) ds) :
    (putF (keyD k) d (kvs.map fun p => keyD p.1) ds).1 = (putK kvs k v).map (fun p => keyD p.1) ∧ RepL m H ((putK kvs k v).map (·.2)) (putF (keyD k) d (kvs.map fun p => keyD p.1) ds).2 := by
  have ea : ((kvs.map fun p => keyD p.1).any fun k' => sameK k' (keyD k)) = kvs.any fun kv => decide (kv.1 = k) := by
    rw [List.any_map]
    congr 1
    funext p
    exact same_key p.1 k
  unfold putF putK
  rw [ea]
  by_cases z : (kvs.any fun kv => decide (kv.1 = k)) = true
  · rw [if_pos z, if_pos z]
    constructor
    · show (kvs.map fun p => keyD p.1) = _
      rw [List.map_map]
      refine List.map_congr_left fun q _ => ?_
      by_cases c : q.1 = k <;> simp [c]
    · show RepL m H _ (((kvs.map fun p => keyD p.1).zip ds).map fun p => if sameK p.1 (keyD k) = true then d else p.2)
      clear ea z
      induction kvs generalizing ds with
      | nil => cases r; exact .nil
      | cons p l ih =>
        cases r with
        | cons r1 r2 =>
          simp only [List.map_cons, List.zip_cons_cons]
          refine .cons ?_ (ih r2)
          rw [same_key]
          by_cases c : p.1 = k
          · simp [c]; exact rv
          · simp [c]; exact r1
  · rw [if_neg z, if_neg z]
    simp only [List.map_append, List.map_cons, List.map_nil]
    exact ⟨trivial, r.append (.cons rv .nil)⟩
/-- d[k] = v, d an own dict with flat keys -/
def setKD (c : OC) (k d : D) : Option OC := match c with
  | .k ks vs => if (isK k && ks.all isK) = true ∧ ks.length < sizeLine then some (.k (putF k d ks vs).1 (putF k d ks vs).2) else none
  | _ => none
/-- a store into a container: SetC -/
def SetC (m : Md) (r : TSet) (g : OC → D → D → Option OC) : Prop := ∀ (a : Addr) (o : HO) (y v : V) (c c' : OC) (dy d : D) (H : Hp) (Q : Hp → Prop), H a = some o → RepO m H a o c → Rep m H y dy → Rep m H v d → g c dy d = some c' →
  (∀ o', RepO m H a o' c' → Q (upd H a o')) → r (.ref a) y v H Q
theorem setc_flat {m : Md} : SetC m rSetD setKD := fun a o y v c c' dy d H Q ha ro ry rv e k => by
  unfold setKD at e
  cases c with
  | l xs => cases e
  | k ks vs =>
    by_cases h : (isK dy && ks.all isK) = true ∧ ks.length < sizeLine
    · simp only [h, and_self, if_true] at e
      cases e
      obtain ⟨h1, h2⟩ := h
      rw [Bool.and_eq_true] at h1
      rcases ro with ⟨kvs, rfl, rfl, r⟩ | ⟨kvs, rfl, n, _, r1, _⟩
      · obtain ⟨ky, rfl, rfl⟩ := key_rep ry h1.1
        obtain ⟨e1, e2⟩ := putF_rep rv ky r
        show ∃ a' H', V.ref a = .ref a' ∧ DPut H a' (kV ky) v H' ∧ Q H'
        exact ⟨a, _, rfl, .inl ⟨kvs, ky, ha, rfl, by simpa using h2, rfl⟩, k _ (.inl ⟨_, rfl, e1, e2⟩)⟩
      · exact (notK r1 n h1.2).elim
    · simp only [h, if_false] at e; cases e
section
variable {X : Cx} {G : Gh} {W : WX} {e a b : Expr} {es : List Expr} {pos : Pos} {rm : RM}
theorem getC_runS {i : Nat} {ρ : DL.Env} {H : Hp} {k : OC → MS} {E : Ends} (h : postS G W rm H (bindM (getC i) k ρ) E) : ∃ c, ρ[i]? = some (.cell c) ∧ postS G W rm H (k c ρ) E := by
  unfold bindM at h
  cases e : ρ[i]? with
  | none =>
    have e2 : getC i ρ = .stuck := by unfold getC; rw [e]
    rw [e2] at h; exact h.elim
  | some sl =>
    cases sl with
    | cell c =>
      have e2 : getC i ρ = .ok c ρ := by unfold getC; rw [e]
      rw [e2] at h; exact ⟨c, rfl, h⟩
    | _ =>
      have e2 : getC i ρ = .stuck := by unfold getC; rw [e]
      rw [e2] at h; exact h.elim
def setGM (g : OC → D → D → Option OC) (i : Nat) (fk fe : M D) : MS := bindM fe fun d => bindM (getC i) fun _ => bindM fk fun z => bindM (getC i) fun c => bindM (liftM (g c z d)) fun c' => bindM (putC i c') fun _ => skipM
theorem ds_setG (i : Nat) {x : Str} {k : Expr} {r : TSet} {g : OC → D → D → Option OC} {fk fe : M D} {pos' pos2 : Pos} (hr : PSet X r) (hg : SetC G.m r g) (he : DE X G W e fe) (hk : DE X G W k fk) (hN : X.N[i]? = some x) (hv : Vis X.env.scope x := by first | exact .inl rfl | exact .inr (.inl rfl) | exact .inr (.inr rfl)) (hd : (x == ("__debug__" : Str)) = false := by decide) (hcd : (x == ("__classdict__" : Str)) = false := by decide)
    (ha : ∀ v, assign (.Subscript (.Name x pos') k pos2) X.env v = (do
      let ov ← holding [v] (eval (.Name x pos') X.env)
      let iv ← holding [v, ov] (eval k X.env)
      standAt pos2
      holding [v, ov, iv] (setItem ov iv v)
      release [v, ov, iv] []) := by intro _; rfl)
    (hs : swapsWithSole [.Subscript (.Name x pos') k pos2] e pos.line X.env = pure false := by rfl) (hw : swappedStores [.Subscript (.Name x pos') k pos2] e X.env = pure none := by rfl)
    (h1 : (assignEach [.Subscript (.Name x pos') k pos2] X.env).map (·.2) = [assign (.Subscript (.Name x pos') k pos2) X.env] := by rfl) :
    DS X G W rm (.Assign [.Subscript (.Name x pos') k pos2] e pos) (setGM g i fk fe) :=
  ps_imp (ps_asg he (pg_sub (pe_var (i := i) hN hv hd hcd) hk hr ha) hs hw h1) fun E σ H ⟨ρ, st, q⟩ => ⟨ρ, st, q.bind.mono fun d ρ1 H1 _ s1 k1 q1 v rv => by
    obtain ⟨c0, e0, q1⟩ := getC_runS q1
    obtain ⟨a, o0, g1, _⟩ := k1.own i c0 e0
    refine ⟨_, g1, ρ1, k1, q1.bind.mono fun z ρ2 H2 _ s2 k2 q2 zv rz => ?_⟩
    obtain ⟨c, e2, q2⟩ := getC_runS q2
    obtain ⟨a', o, w1, w2, w3, _⟩ := k2.own i c e2
    rw [g1] at w1; injection w1 with w1; injection w1 with w1; injection w1 with w1
    subst w1
    obtain ⟨c', e3, q3⟩ := (q2.bind (σ := σ)).lift k2
    refine hg a o zv v c c' z d H2 _ w2 w3 rz (rv.st s2) e3 fun o' ro' => ?_
    have st2 : Stable H2 (upd H2 a o') := Stable.upd w2 w3.nf
    exact q3 H2 Stable.rfl k2 σ _ st2 (k2.wroteC e2 g1 ro')⟩
/-- {k: v, ..} as a dict of the def's own -/
def dicC (fs : List (M D × M D)) : M OC := bindM (pairsM fs) fun ps => if difK (ps.map (·.1)) = true ∧ ps.length ≤ 15 then pureM (.k (ps.map (·.1)) (ps.map (·.2))) else stuckM
end
end DL
end
section
namespace DL
open PySem PySem.Spec L2 DLS
open PyProof.Rows hiding St
/-! ### slices -/
def cutL {α : Type} (xs : List α) (lo hi : Option Int) : List α := (xs.drop (HT.sIx xs.length 0 lo)).take (HT.sIx xs.length xs.length hi - HT.sIx xs.length 0 lo)
def slD (lo hi : Option Int) : D → Option D
  | .lst xs => some (.lst (cutL xs lo hi))
  | .tup xs => some (.tup (cutL xs lo hi))
  | .str z => if z.length ≤ sizeLine then some (.str ⟨(cutL z.cps.toList lo hi).toArray⟩) else none
  | _ => none
def partM (f : M D) : M (Option Int) := bindM f fun d => match d with
  | .int i => pureM (some i)
  | _ => stuckM
section
variable {X : Cx} {G : Gh} {W : WX} {e : Expr} {lo hi : Option Expr} {pos p2 : Pos}
def slM (fe : M D) (fl fh : M (Option Int)) : M D := bindM fe fun x => bindM fl fun l => bindM fh fun h => liftM (slD l h x)
/-- xs[::-1], a list -/
def revM (f : M D) : M D := bindM f fun d => match d with
  | .lst xs => pureM (.lst xs.reverse)
  | _ => stuckM
/-! ### a + b as a list of the def's own -/
def catD : D → D → Option (List D)
  | .lst xs, .lst ys => if xs.length + ys.length ≤ sizeLine then some (xs ++ ys) else none
  | _, _ => none
def catM (fa fb : M D) : M (List D) := bindM fa fun x => bindM fb fun y => liftM (catD x y)
end
end DL
end
section
namespace DL
open PySem PySem.Spec L2 DLS
open PyProof.Rows hiding St
/-! ### values that may be containers of the def's own -/
def Hand (G : Gh) (σ : L2.St) (ρ : DL.Env) (H : Hp) (v : V) (d : D) : Prop := match conOf d with
  | some c => ∃ a o, v = .ref a ∧ H a = some o ∧ RepO G.m H a o c ∧ Fresh G σ ρ a
  | none => Rep G.m H v d
def xT (G : Gh) (W : WX) (f : M D) : TE := fun σ H Q => ∃ ρ, StOk G σ H ρ ∧ postG G W σ H (f ρ) fun d ρ' H' => ∀ v, Hand G σ ρ' H' v d → Q v H'
def DX (X : Cx) (G : Gh) (W : WX) (e : Expr) (f : M D) : Prop := PE X e (xT G W f)
theorem conOf_oc (c : OC) : conOf (ocD c) = some c := by cases c <;> rfl
theorem ocD_con {d : D} {c : OC} (h : conOf d = some c) : ocD c = d := by
  cases d <;> simp [conOf] at h <;> subst h <;> rfl
def setXM (i : Nat) (f : M D) : MS := bindM f fun d ρ => match conOf d with
  | some c => .ok .nx (ρ.set i (.cell c))
  | none => .ok .nx (ρ.set i (.d d))
def giveX (i : Nat) : M D := bindM (getC i) fun c ρ => .ok (ocD c) (ρ.set i .no)
section
variable {X : Cx} {G : Gh} {W : WX} {e a b : Expr} {es : List Expr} {pos p : Pos} {rm : RM} {x : Str} {j k : Nat} {md : List Bool} {f : Fn} {fa : M (List Ag)}
theorem dx_call {CX : CXT} {kk : Nat} {fA : Addr} {fd : FuncData} {ps : List Str} (hex : G.ex = none) (hm0 : G.m = ⟨X.K, X.mg, X.w⟩) (tk : Takes X W) (F : FnOk X.prog X.w X.K X.mg X.base (L2.CX X.prog X.w) kk fA fd ps (spD ⟨X.K, X.mg, X.w⟩ none md .o f)) (hr : Room kk X.A) (hg : Gl X x) (hm : X.mg x = some (.ref fA)) (hk : PySem.W.keepIn X.K (.ref fA) = true) (hb : Binds X.K fd ps [])
    (ha : DG X G W (e :: es) fa) (hdb : (x == ("__debug__" : Str)) = false := by decide) (he : starEach (e :: es) X.env = (false, eval e X.env) :: starEach es X.env := by rfl) (hpl : (backTo pos (starEach es X.env)).any (·.1) = false := by rfl) :
    DX X G W (.Call (.Name x p) (e :: es) [] pos) (callM f (mdM md fa)) :=
  pe_imp (pe_callS F hr hg hm hk hb (fun σ => passAt tk σ) ha hdb he hpl) fun σ H Q ⟨ρ, k, q⟩ => ⟨ρ, k, (mdM_run q).mono fun ags ρ1 H1 _ s1 k1 q1 vs rs fs => by
    rw [← hm0]
    refine call_run hex k1 rs fs (fun ρ' e => by rw [e]; exact q1.1) q1.2 fun d ρ' v H' s' k' ow rf h => h v ?_
    unfold RetF at rf
    unfold Hand
    cases c : conOf d with
    | none => simp only [c] at rf ⊢; exact rf
    | some oc =>
      simp only [c] at rf ⊢
      obtain ⟨a, o, e1, e2, e3, e4⟩ := rf
      have fr := k1.fresh e4
      refine ⟨a, o, e1, e2, e3, fr.1, fr.2.1, fun i xs hi z => ?_⟩
      obtain ⟨xs0, h0⟩ := ow i xs hi
      exact fr.2.2 i xs0 h0 z⟩
theorem dx_calls (hex : G.ex = none) (hm0 : G.m = ⟨X.K, X.mg, X.w⟩) (tk : Takes X W) (C : DFn X.prog X.w X.K X.mg X.base x j md .o f) (hr : Room k X.A) (hk : j ≤ k) (hg : Gl X x) (ha : DG X G W (e :: es) fa) (hdb : (x == ("__debug__" : Str)) = false := by decide) (he : starEach (e :: es) X.env = (false, eval e X.env) :: starEach es X.env := by rfl) (hpl : (backTo pos (starEach es X.env)).any (·.1) = false := by rfl) :
    DX X G W (.Call (.Name x p) (e :: es) [] pos) (callM f (mdM md fa)) := by
  obtain ⟨fA, fd, ps, h1, h2, h3, h4⟩ := C.ex
  exact dx_call (CX := L2.CX X.prog X.w) hex hm0 tk h4 (hr.mono hk) hg h1 h2 h3 ha hdb he hpl
theorem dx_list {f : M (List D)} (h : DO X G W e f) : DX X G W e (lstM f) := pe_imp h fun σ H Q ⟨ρ, k, q⟩ => ⟨ρ, k, q.bind.mono fun ds ρ1 H1 _ s1 k1 q1 a vs ha r fr => q1 H1 Stable.rfl k1 _ ⟨a, _, rfl, ha, ⟨vs, rfl, r⟩, fr⟩⟩
theorem dx_give (i : Nat) {x : Str} (hp : pfree G i) (hN : X.N[i]? = some x) (hv : Vis X.env.scope x := by first | exact .inl rfl | exact .inr (.inl rfl) | exact .inr (.inr rfl)) (hd : (x == ("__debug__" : Str)) = false := by decide) (hcd : (x == ("__classdict__" : Str)) = false := by decide) :
    DX X G W (.Name x pos) (giveX i) := pe_imp (pe_var (i := i) hN hv hd hcd) fun σ H Q ⟨ρ, k, q⟩ => by
  obtain ⟨xs, e, q⟩ := getC_run q
  obtain ⟨a, o, h1, h2, h3, h4⟩ := k.own i xs e
  refine ⟨_, h1, ?_⟩
  have sub : ∀ {j s}, (ρ.set i .no)[j]? = some s → s ≠ Sl.no → j ≠ i ∧ ρ[j]? = some s := fun {j s} h hs => by
    rcases set_get h with ⟨_, e2, _⟩ | ⟨e, h⟩
    · exact absurd e2 hs
    · exact ⟨fun z => e z.symm, h⟩
  have k' : StOk G σ H (ρ.set i .no) := ⟨by simp [k.len], fun j x h => k.dat j x (sub h (fun z => nomatch z)).2, fun j ys h => k.own j ys (sub h (fun z => nomatch z)).2,
    fun j l ys zs b ne e1 e2 => k.sep j l ys zs b ne (sub e1 (fun z => nomatch z)).2 (sub e2 (fun z => nomatch z)).2, fun p hm => by
      obtain ⟨q1, ys, q2⟩ := k.prot p hm
      exact ⟨q1, ys, by rw [List.getElem?_set_ne (fun z => hp p hm z.symm)]; exact q2⟩, k.keep, fun j c h => k.exn j c (sub h (fun z => nomatch z)).2⟩
  refine q H Stable.rfl k' _ ?_
  unfold Hand
  simp only [conOf_oc]
  exact ⟨a, o, rfl, h2, h3, (h4 hp).1, (h4 hp).2, fun j ys h z => k.sep i j xs ys a (fun w => (sub h (fun z => nomatch z)).1 w.symm) e (sub h (fun z => nomatch z)).2 h1 z⟩
/-- as data: a container is frozen -/
theorem de_fzX {f : M D} (h : DX X G W e f) : DE X G W e f := pe_imp (pe_fz h) fun σ H Q ⟨ρ, k, q⟩ => ⟨ρ, k, by
  cases e : f ρ with
  | stuck => rw [e] at q; exact q
  | exc c ρ1 => rw [e] at q; exact q
  | ok d ρ1 =>
    rw [e] at q
    intro H1 s1 k1 v hv
    unfold Hand at hv
    cases c : conOf d with
    | none => simp only [c] at hv; exact .inl (q H1 s1 k1 v hv)
    | some oc =>
      simp only [c] at hv
      obtain ⟨a, o, rfl, ha, hr, hf⟩ := hv
      refine .inr ⟨a, o, rfl, ha, hr.mt, fun ob => ?_⟩
      have st : Stable H1 (upd H1 a (.frz ob o)) := Stable.upd ha hr.nf
      have rd := hr.data (ob := ob) ha
      rw [ocD_con c] at rd
      exact q _ (s1.trans st) (k1.upd hf fun u hu => nfix_of ha hr.nf hu) _ rd⟩
theorem ds_retDX {f : M D} (he : DX X G W e f) : DS X G W .o (.Return (some e) pos) (retM f) :=
  ps_imp (ps_ret he) fun E σ H ⟨ρ, k, q⟩ => ⟨ρ, k, q.bind.mono fun d ρ1 H1 _ s1 k1 q1 v hv => q1 v σ H1 Stable.rfl k1 (by
    unfold Hand at hv
    unfold RetOk
    cases c : conOf d with
    | none => simp only [c] at hv ⊢; exact hv
    | some oc =>
      simp only [c] at hv ⊢
      obtain ⟨a, o, e1, e2, e3, e4⟩ := hv
      exact ⟨a, o, e1, e2, e3, e4.1, e4.2.1⟩)⟩
end
end DL
end
section
namespace DL
open PySem PySem.Spec L2 DLS
open PyProof.Rows hiding St
/-! ### own containers lent as data, for an answer that holds none of them -/
def atomD : D → Bool
  | .non => true
  | .bl _ => true
  | .int _ => true
  | .str _ => true
  | _ => false
theorem Rep.atom {m : Md} {H H' : Hp} {v : V} {d : D} (r : Rep m H v d) (h : atomD d = true) : Rep m H' v d := by
  cases r with
  | non => exact .non
  | bl b => exact .bl b
  | int i => exact .int i
  | str x => exact .str x
  | _ => cases h
def dataS : Sl → Sl
  | .cell c => .d (ocD c)
  | s => s
def dataE (ρ : DL.Env) : DL.Env := ρ.map dataS
def lendM (f : M D) : M D := fun ρ => match f (dataE ρ) with
  | .ok d _ => if atomD d = true then .ok d ρ else .stuck
  | _ => .stuck
def tLk : List (Addr × HO) → TE → TE
  | [], t => t
  | p :: l, t => tLk l fun σ H Q => H p.1 = some p.2 ∧ Mut (some p.2) ∧ ∀ od, t σ (upd H p.1 (.frz od p.2)) fun v H' => H' p.1 = some (.frz od p.2) ∧ Q v (upd H' p.1 p.2)
theorem pe_lk {X : Cx} {e : Expr} : ∀ {l : List (Addr × HO)} {t : TE}, PE X e t → PE X e (tLk l t)
  | [], _, h => h
  | p :: l, t, h => pe_lk (l := l) (pe_imp (pe_lock h) fun σ H Q ⟨h1, h2, h3⟩ => ⟨p.1, p.2, h1, h2, h3⟩)
/-- HL is H with the containers of l locked -/
def LockedBy (H HL : Hp) (l : List (Addr × HO)) : Prop := (∀ b, b ∉ l.map (·.1) → HL b = H b) ∧ ∀ p ∈ l, ∃ od, HL p.1 = some (.frz od p.2)
theorem tLk_intro {t : TE} (mono : ∀ σ H (Q Q' : VK), (∀ v H', Q v H' → Q' v H') → t σ H Q → t σ H Q') {σ : L2.St} : ∀ {l : List (Addr × HO)} {H : Hp} {Q : VK}, (l.map (·.1)).Nodup → (∀ p ∈ l, H p.1 = some p.2 ∧ Mut (some p.2)) →
    (∀ HL, LockedBy H HL l → t σ HL fun v H' => (∀ p ∈ l, H' p.1 = HL p.1) ∧ ∀ H'', (∀ b, b ∉ l.map (·.1) → H'' b = H' b) → (∀ p ∈ l, H'' p.1 = some p.2) → Q v H'') → tLk l t σ H Q := by
  intro l
  induction l generalizing t with
  | nil =>
    intro H Q _ _ h
    exact mono _ _ _ _ (fun v H' ⟨_, q⟩ => q H' (fun _ _ => rfl) (fun p hp => absurd hp List.not_mem_nil)) (h H ⟨fun _ _ => rfl, fun p hp => absurd hp List.not_mem_nil⟩)
  | cons p l ih =>
    intro H Q nd hl h
    rw [List.map_cons, List.nodup_cons] at nd
    refine ih (t := fun σ H Q => H p.1 = some p.2 ∧ Mut (some p.2) ∧ ∀ od, t σ (upd H p.1 (.frz od p.2)) fun v H' => H' p.1 = some (.frz od p.2) ∧ Q v (upd H' p.1 p.2)) ?_ nd.2 (fun q hq => hl q (List.mem_cons_of_mem _ hq)) ?_
    · intro σ H Q Q' hq ⟨h1, h2, h3⟩
      exact ⟨h1, h2, fun od => mono _ _ _ _ (fun v H' ⟨a, b⟩ => ⟨a, hq _ _ b⟩) (h3 od)⟩
    · intro HL lk
      refine ⟨by rw [lk.1 p.1 nd.1]; exact (hl p List.mem_cons_self).1, (hl p List.mem_cons_self).2, fun od => ?_⟩
      have lk2 : LockedBy H (upd HL p.1 (.frz od p.2)) (p :: l) := by
        refine ⟨fun b hb => ?_, fun q hq => ?_⟩
        · rw [List.map_cons, List.mem_cons, not_or] at hb
          rw [upd_ne hb.1, lk.1 b hb.2]
        · rcases List.mem_cons.mp hq with e | hq
          · subst e; exact ⟨od, upd_same⟩
          · rw [upd_ne (fun z => nd.1 (List.mem_map.mpr ⟨q, hq, z⟩))]; exact lk.2 q hq
      refine mono _ _ _ _ (fun v H' ⟨h1, h2⟩ => ⟨by rw [h1 p List.mem_cons_self, upd_same], fun q hq => ?_, fun H'' e1 e2 => ?_⟩) (h _ lk2)
      · have ne : q.1 ≠ p.1 := fun z => nd.1 (List.mem_map.mpr ⟨q, hq, z⟩)
        rw [upd_ne ne, h1 q (List.mem_cons_of_mem _ hq), upd_ne ne]
      · refine h2 H'' (fun b hb => ?_) (fun q hq => ?_)
        · rw [List.map_cons, List.mem_cons, not_or] at hb
          rw [e1 b hb.2, upd_ne hb.1]
        · rcases List.mem_cons.mp hq with e | hq
          · subst e; rw [e1 q.1 nd.1, upd_same]
          · exact e2 q hq
/-- the own containers of a state -/
theorem StOk.cells {G : Gh} {σ : L2.St} {H : Hp} {ρ : DL.Env} (k : StOk G σ H ρ) : ∀ n, n ≤ ρ.length → ∃ l : List (Addr × HO), (l.map (·.1)).Nodup ∧ (∀ p ∈ l, ∃ i c, i < n ∧ ρ[i]? = some (.cell c) ∧ σ[i]? = some (some (.ref p.1)) ∧ H p.1 = some p.2 ∧ RepO G.m H p.1 p.2 c) ∧
    ∀ i c, i < n → ρ[i]? = some (.cell c) → ∃ p ∈ l, σ[i]? = some (some (.ref p.1)) ∧ H p.1 = some p.2 ∧ RepO G.m H p.1 p.2 c
  | 0, _ => ⟨[], List.nodup_nil, fun p hp => absurd hp List.not_mem_nil, fun i c h => absurd h (by omega)⟩
  | n + 1, hn => by
    obtain ⟨l, h1, h2, h3⟩ := k.cells n (by omega)
    have up : ∀ p ∈ l, ∃ i c, i < n + 1 ∧ ρ[i]? = some (.cell c) ∧ σ[i]? = some (some (.ref p.1)) ∧ H p.1 = some p.2 ∧ RepO G.m H p.1 p.2 c := fun p hp => by
      obtain ⟨i, c, a, b⟩ := h2 p hp
      exact ⟨i, c, by omega, b⟩
    have other : (∀ c, ρ[n]? ≠ some (.cell c)) → _ := fun hc => (⟨l, h1, up, fun i c hi e => by
      by_cases z : i = n
      · subst z; exact absurd e (hc c)
      · exact h3 i c (by omega) e⟩ : ∃ l : List (Addr × HO), (l.map (·.1)).Nodup ∧ (∀ p ∈ l, ∃ i c, i < n + 1 ∧ ρ[i]? = some (.cell c) ∧ σ[i]? = some (some (.ref p.1)) ∧ H p.1 = some p.2 ∧ RepO G.m H p.1 p.2 c) ∧
    ∀ i c, i < n + 1 → ρ[i]? = some (.cell c) → ∃ p ∈ l, σ[i]? = some (some (.ref p.1)) ∧ H p.1 = some p.2 ∧ RepO G.m H p.1 p.2 c)
    cases e : ρ[n]? with
    | none => exact other fun c z => by rw [e] at z; cases z
    | some s =>
      cases s with
      | cell c =>
        obtain ⟨a, o, g1, g2, g3, _⟩ := k.own n c e
        refine ⟨(a, o) :: l, ?_, ?_, ?_⟩
        · rw [List.map_cons]
          refine List.nodup_cons.mpr ⟨fun z => ?_, h1⟩
          obtain ⟨p, hp, e2⟩ := List.mem_map.mp z
          obtain ⟨i, c', a1, a2, a3, _⟩ := h2 p hp
          have e2 : p.1 = a := e2
          rw [e2] at a3
          exact k.sep i n c' c a (by omega) a2 e a3 g1
        · intro p hp
          rcases List.mem_cons.mp hp with z | hp
          · subst z; exact ⟨n, c, by omega, e, g1, g2, g3⟩
          · exact up p hp
        · intro i c' hi e'
          by_cases z : i = n
          · subst z
            rw [e] at e'; cases e'
            exact ⟨(a, o), List.mem_cons_self, g1, g2, g3⟩
          · obtain ⟨p, hp, q⟩ := h3 i c' (by omega) e'
            exact ⟨p, List.mem_cons_of_mem _ hp, q⟩
      | _ => exact other fun c z => by rw [e] at z; cases z
section
variable {X : Cx} {G : Gh} {W : WX} {e : Expr}
theorem de_lend {f : M D} (he : ∀ h, DE X ⟨G.m, h, [], G.ex⟩ W e f) : DE X G W e (lendM f) := by
  have hE : PE X e (fun σ H Q => ∃ h, dT ⟨G.m, h, [], G.ex⟩ W f σ H Q) := ⟨fun pins s σ H Q I ⟨h, q⟩ => (he h).run pins s σ H Q I q⟩
  refine ⟨fun pins s σ H Q I ⟨ρ, k, q⟩ => ?_⟩
  obtain ⟨l, nd, h2, h3⟩ := k.cells ρ.length (Nat.le_refl _)
  have h3 : ∀ (i : Nat) (c : OC), ρ[i]? = some (Sl.cell c) → ∃ p ∈ l, σ[i]? = some (some (V.ref p.1)) ∧ H p.1 = some p.2 ∧ RepO G.m H p.1 p.2 c := fun i c e => h3 i c (List.getElem?_eq_some_iff.mp e).1 e
  refine (pe_lk (l := l) hE).run pins s σ H Q I (tLk_intro ?_ nd (fun p hp => ?_) fun HL lk => ?_)
  · intro σ H Q Q' hq ⟨h, ρ, k, q⟩
    exact ⟨h, ρ, k, q.mono fun d ρ1 H1 _ _ _ q1 v r => hq v H1 (q1 v r)⟩
  · obtain ⟨i, c, _, _, _, a, b⟩ := h2 p hp
    exact ⟨a, b.mt⟩
  · have stl : Stable H HL := fun b o hb fx => by
      by_cases z : b ∈ l.map (·.1)
      · obtain ⟨p, hp, e⟩ := List.mem_map.mp z
        obtain ⟨i, c, _, _, _, a, b'⟩ := h2 p hp
        have e : p.1 = b := e
        rw [e, hb] at a; cases a
        exact absurd fx b'.nf
      · rw [lk.1 b z]; exact hb
    have rdl : ∀ p ∈ l, ∀ c, H p.1 = some p.2 → RepO G.m H p.1 p.2 c → Rep G.m HL (.ref p.1) (ocD c) := fun p hp c hH r => by
      obtain ⟨od, e⟩ := lk.2 p hp
      match c, r with
      | .l xs, ⟨vs, q, r⟩ => rw [q] at e; exact .lst (.inl ⟨od, e⟩) (r.st stl)
      | .k _ _, .inl ⟨kvs, q, q2, r⟩ => rw [q] at e; subst q2; exact .dicK e (r.st stl)
      | .k _ _, .inr ⟨kvs, q, n, q2, r1, r2⟩ => rw [q] at e; exact .dicN e n q2 (r1.st stl) (r2.st stl)
    have kl : StOk ⟨G.m, HL, [], G.ex⟩ σ HL (dataE ρ) := by
      have at_ : ∀ {i : Nat} {s : Sl}, (dataE ρ)[i]? = some s → ∃ t, ρ[i]? = some t ∧ s = dataS t := fun {i s} h => by
        unfold dataE at h
        rw [List.getElem?_map] at h
        cases e : ρ[i]? with
        | none => rw [e] at h; cases h
        | some t => rw [e] at h; simp at h; exact ⟨t, rfl, h.symm⟩
      refine ⟨by unfold dataE; rw [List.length_map]; exact k.len, fun i x h => ?_, fun i c h => ?_, fun i j c c' a _ h => ?_, fun p hp => absurd hp List.not_mem_nil, fun b o h _ => h, fun i c h => ?_⟩
      · obtain ⟨t, e1, e2⟩ := at_ h
        cases t with
        | d y =>
          cases e2
          obtain ⟨v, g1, g2⟩ := k.dat i x e1
          exact ⟨v, g1, g2.st stl⟩
        | cell c =>
          cases e2
          obtain ⟨p, hp, g1, g2, g3⟩ := h3 i c e1
          exact ⟨_, g1, rdl p hp c g2 g3⟩
        | _ => cases e2
      · obtain ⟨t, e1, e2⟩ := at_ h
        cases t <;> cases e2
      · obtain ⟨t, e1, e2⟩ := at_ h
        cases t <;> cases e2
      · obtain ⟨t, e1, e2⟩ := at_ h
        cases t with
        | exn c' => cases e2; exact k.exn i c e1
        | _ => cases e2
    refine ⟨HL, dataE ρ, kl, ?_⟩
    unfold lendM at q
    cases ef : f (dataE ρ) with
    | stuck => rw [ef] at q; exact q.elim
    | exc c ρ1 => rw [ef] at q; exact q.elim
    | ok d ρ1 =>
      rw [ef] at q
      by_cases ha : atomD d = true
      · simp only [ha, if_true] at q
        intro H' s' k' v r
        refine ⟨fun p hp => ?_, fun H'' e1 e2 => ?_⟩
        · obtain ⟨od, e⟩ := lk.2 p hp
          rw [e]; exact s' _ _ e trivial
        · have kp : ∀ b o, b ∉ l.map (·.1) → H b = some o → H'' b = some o := fun b o hb ho => by
            rw [e1 b hb]
            exact k'.keep b o (by show HL b = some o; rw [lk.1 b hb]; exact ho) fun p hp => absurd hp List.not_mem_nil
          have kpl : ∀ p ∈ l, H p.1 = some p.2 ∧ H'' p.1 = some p.2 := fun p hp => by
            obtain ⟨i, c, _, _, _, a, _⟩ := h2 p hp
            exact ⟨a, e2 p hp⟩
          have gr : Grow H H'' := fun b o hb => by
            by_cases z : b ∈ l.map (·.1)
            · obtain ⟨p, hp, e⟩ := List.mem_map.mp z
              have e : p.1 = b := e
              obtain ⟨a1, a2⟩ := kpl p hp
              rw [e] at a1 a2
              rw [hb] at a1; cases a1; exact a2
            · exact kp b o z hb
          exact q H'' gr.stable (k.grow gr) v (r.atom ha)
      · simp only [ha] at q; exact q.elim
/-- .. a test -/
def lendT (f : M Bool) : M Bool := fun ρ => match f (dataE ρ) with
  | .ok b _ => .ok b ρ
  | _ => .stuck
end
def tLkT : List (Addr × HO) → TT → TT
  | [], t => t
  | p :: l, t => tLkT l fun σ H Q => H p.1 = some p.2 ∧ Mut (some p.2) ∧ ∀ od, t σ (upd H p.1 (.frz od p.2)) fun v H' => H' p.1 = some (.frz od p.2) ∧ Q v (upd H' p.1 p.2)
theorem pt_lock1 {X : Cx} {e : Expr} {t : TT} (h : PT X e t) : PT X e (fun σ H Q => ∃ d u, H d = some u ∧ Mut (some u) ∧ ∀ od, t σ (upd H d (.frz od u)) fun v H' => H' d = some (.frz od u) ∧ Q v (upd H' d u)) := by
  refine ⟨fun pins s σ H Q I hw => ?_⟩
  obtain ⟨d, u, hd, mu, hw⟩ := hw
  obtain ⟨od, I1⟩ := I.lock hd mu
  refine thn (h.run pins s σ _ _ I1 (hw od)) fun b s1 ⟨H1, I2, e2, q⟩ => ?_
  exact ⟨_, I2.unlock e2 (I.nofrz hd mu), q⟩
theorem pt_lk {X : Cx} {e : Expr} : ∀ {l : List (Addr × HO)} {t : TT}, PT X e t → PT X e (tLkT l t)
  | [], _, h => h
  | p :: l, t, h => pt_lk (l := l) (pt_imp (pt_lock1 h) fun σ H Q ⟨h1, h2, h3⟩ => ⟨p.1, p.2, h1, h2, h3⟩)
theorem tLkT_intro {t : TT} (mono : ∀ σ H (Q Q' : Bool → Hp → Prop), (∀ v H', Q v H' → Q' v H') → t σ H Q → t σ H Q') {σ : L2.St} : ∀ {l : List (Addr × HO)} {H : Hp} {Q : Bool → Hp → Prop}, (l.map (·.1)).Nodup → (∀ p ∈ l, H p.1 = some p.2 ∧ Mut (some p.2)) →
    (∀ HL, LockedBy H HL l → t σ HL fun v H' => (∀ p ∈ l, H' p.1 = HL p.1) ∧ ∀ H'', (∀ b, b ∉ l.map (·.1) → H'' b = H' b) → (∀ p ∈ l, H'' p.1 = some p.2) → Q v H'') → tLkT l t σ H Q := by
  intro l
  induction l generalizing t with
  | nil =>
    intro H Q _ _ h
    exact mono _ _ _ _ (fun v H' ⟨_, q⟩ => q H' (fun _ _ => rfl) (fun p hp => absurd hp List.not_mem_nil)) (h H ⟨fun _ _ => rfl, fun p hp => absurd hp List.not_mem_nil⟩)
  | cons p l ih =>
    intro H Q nd hl h
    rw [List.map_cons, List.nodup_cons] at nd
    refine ih (t := fun σ H Q => H p.1 = some p.2 ∧ Mut (some p.2) ∧ ∀ od, t σ (upd H p.1 (.frz od p.2)) fun v H' => H' p.1 = some (.frz od p.2) ∧ Q v (upd H' p.1 p.2)) ?_ nd.2 (fun q hq => hl q (List.mem_cons_of_mem _ hq)) ?_
    · intro σ H Q Q' hq ⟨h1, h2, h3⟩
      exact ⟨h1, h2, fun od => mono _ _ _ _ (fun v H' ⟨a, b⟩ => ⟨a, hq _ _ b⟩) (h3 od)⟩
    · intro HL lk
      refine ⟨by rw [lk.1 p.1 nd.1]; exact (hl p List.mem_cons_self).1, (hl p List.mem_cons_self).2, fun od => ?_⟩
      have lk2 : LockedBy H (upd HL p.1 (.frz od p.2)) (p :: l) := by
        refine ⟨fun b hb => ?_, fun q hq => ?_⟩
        · rw [List.map_cons, List.mem_cons, not_or] at hb
          rw [upd_ne hb.1, lk.1 b hb.2]
        · rcases List.mem_cons.mp hq with e | hq
          · subst e; exact ⟨od, upd_same⟩
          · rw [upd_ne (fun z => nd.1 (List.mem_map.mpr ⟨q, hq, z⟩))]; exact lk.2 q hq
      refine mono _ _ _ _ (fun v H' ⟨h1, h2⟩ => ⟨by rw [h1 p List.mem_cons_self, upd_same], fun q hq => ?_, fun H'' e1 e2 => ?_⟩) (h _ lk2)
      · have ne : q.1 ≠ p.1 := fun z => nd.1 (List.mem_map.mpr ⟨q, hq, z⟩)
        rw [upd_ne ne, h1 q (List.mem_cons_of_mem _ hq), upd_ne ne]
      · refine h2 H'' (fun b hb => ?_) (fun q hq => ?_)
        · rw [List.map_cons, List.mem_cons, not_or] at hb
          rw [e1 b hb.2, upd_ne hb.1]
        · rcases List.mem_cons.mp hq with e | hq
          · subst e; rw [e1 q.1 nd.1, upd_same]
          · exact e2 q hq
/-- the locked state, and the way back -/
theorem StOk.lent {G : Gh} {σ : L2.St} {H : Hp} {ρ : DL.Env} (k : StOk G σ H ρ) : ∃ l : List (Addr × HO), (l.map (·.1)).Nodup ∧ (∀ p ∈ l, H p.1 = some p.2 ∧ Mut (some p.2)) ∧ ∀ HL, LockedBy H HL l → StOk ⟨G.m, HL, [], G.ex⟩ σ HL (dataE ρ) ∧ Stable H HL ∧
    ∀ H' ρ', Stable HL H' → StOk ⟨G.m, HL, [], G.ex⟩ σ H' ρ' → (∀ p ∈ l, H' p.1 = HL p.1) ∧ ∀ H'', (∀ b, b ∉ l.map (·.1) → H'' b = H' b) → (∀ p ∈ l, H'' p.1 = some p.2) → Stable H H'' ∧ StOk G σ H'' ρ := by
  obtain ⟨l, nd, h2, h3⟩ := k.cells ρ.length (Nat.le_refl _)
  have h3 : ∀ (i : Nat) (c : OC), ρ[i]? = some (Sl.cell c) → ∃ p ∈ l, σ[i]? = some (some (V.ref p.1)) ∧ H p.1 = some p.2 ∧ RepO G.m H p.1 p.2 c := fun i c e => h3 i c (List.getElem?_eq_some_iff.mp e).1 e
  refine ⟨l, nd, fun p hp => ?_, fun HL lk => ?_⟩
  · obtain ⟨i, c, _, _, _, a, b⟩ := h2 p hp
    exact ⟨a, b.mt⟩
  have stl : Stable H HL := fun b o hb fx => by
    by_cases z : b ∈ l.map (·.1)
    · obtain ⟨p, hp, e⟩ := List.mem_map.mp z
      obtain ⟨i, c, _, _, _, a, b'⟩ := h2 p hp
      have e : p.1 = b := e
      rw [e, hb] at a; cases a
      exact absurd fx b'.nf
    · rw [lk.1 b z]; exact hb
  have rdl : ∀ p ∈ l, ∀ c, H p.1 = some p.2 → RepO G.m H p.1 p.2 c → Rep G.m HL (.ref p.1) (ocD c) := fun p hp c hH r => by
    obtain ⟨od, e⟩ := lk.2 p hp
    match c, r with
    | .l xs, ⟨vs, q, r⟩ => rw [q] at e; exact .lst (.inl ⟨od, e⟩) (r.st stl)
    | .k _ _, .inl ⟨kvs, q, q2, r⟩ => rw [q] at e; subst q2; exact .dicK e (r.st stl)
    | .k _ _, .inr ⟨kvs, q, n, q2, r1, r2⟩ => rw [q] at e; exact .dicN e n q2 (r1.st stl) (r2.st stl)
  refine ⟨?_, stl, fun H' ρ' s' k' => ⟨fun p hp => ?_, fun H'' e1 e2 => ?_⟩⟩
  · have at_ : ∀ {i : Nat} {s : Sl}, (dataE ρ)[i]? = some s → ∃ t, ρ[i]? = some t ∧ s = dataS t := fun {i s} h => by
      unfold dataE at h
      rw [List.getElem?_map] at h
      cases e : ρ[i]? with
      | none => rw [e] at h; cases h
      | some t => rw [e] at h; simp at h; exact ⟨t, rfl, h.symm⟩
    refine ⟨by unfold dataE; rw [List.length_map]; exact k.len, fun i x h => ?_, fun i c h => ?_, fun i j c c' a _ h => ?_, fun p hp => absurd hp List.not_mem_nil, fun b o h _ => h, fun i c h => ?_⟩
    · obtain ⟨t, e1, e2⟩ := at_ h
      cases t with
      | d y =>
        cases e2
        obtain ⟨v, g1, g2⟩ := k.dat i x e1
        exact ⟨v, g1, g2.st stl⟩
      | cell c =>
        cases e2
        obtain ⟨p, hp, g1, g2, g3⟩ := h3 i c e1
        exact ⟨_, g1, rdl p hp c g2 g3⟩
      | _ => cases e2
    · obtain ⟨t, e1, e2⟩ := at_ h
      cases t <;> cases e2
    · obtain ⟨t, e1, e2⟩ := at_ h
      cases t <;> cases e2
    · obtain ⟨t, e1, e2⟩ := at_ h
      cases t with
      | exn c' => cases e2; exact k.exn i c e1
      | _ => cases e2
  · obtain ⟨od, e⟩ := lk.2 p hp
    rw [e]; exact s' _ _ e trivial
  · have kp : ∀ b o, b ∉ l.map (·.1) → H b = some o → H'' b = some o := fun b o hb ho => by
      rw [e1 b hb]
      exact k'.keep b o (by show HL b = some o; rw [lk.1 b hb]; exact ho) fun p hp => absurd hp List.not_mem_nil
    have kpl : ∀ p ∈ l, H p.1 = some p.2 ∧ H'' p.1 = some p.2 := fun p hp => by
      obtain ⟨i, c, _, _, _, a, _⟩ := h2 p hp
      exact ⟨a, e2 p hp⟩
    have gr : Grow H H'' := fun b o hb => by
      by_cases z : b ∈ l.map (·.1)
      · obtain ⟨p, hp, e⟩ := List.mem_map.mp z
        have e : p.1 = b := e
        obtain ⟨a1, a2⟩ := kpl p hp
        rw [e] at a1 a2
        rw [hb] at a1; cases a1; exact a2
      · exact kp b o z hb
    exact ⟨gr.stable, k.grow gr⟩
section
variable {X : Cx} {G : Gh} {W : WX} {e : Expr}
theorem dt_lend {f : M Bool} (he : ∀ h, DT X ⟨G.m, h, [], G.ex⟩ W e f) : DT X G W e (lendT f) := by
  have hE : PT X e (fun σ H Q => ∃ h, tT ⟨G.m, h, [], G.ex⟩ W f σ H Q) := ⟨fun pins s σ H Q I ⟨h, q⟩ => (he h).run pins s σ H Q I q⟩
  refine ⟨fun pins s σ H Q I ⟨ρ, k, q⟩ => ?_⟩
  obtain ⟨l, nd, h2, h3⟩ := k.lent
  refine (pt_lk (l := l) hE).run pins s σ H Q I (tLkT_intro ?_ nd h2 fun HL lk => ?_)
  · intro σ H Q Q' hq ⟨h, ρ, k, q⟩
    exact ⟨h, ρ, k, q.mono fun d ρ1 H1 _ _ _ q1 => hq d H1 q1⟩
  · obtain ⟨kl, _, back⟩ := h3 HL lk
    refine ⟨HL, dataE ρ, kl, ?_⟩
    unfold lendT at q
    cases ef : f (dataE ρ) with
    | stuck => rw [ef] at q; exact q.elim
    | exc c ρ1 => rw [ef] at q; exact q.elim
    | ok b ρ1 =>
      rw [ef] at q
      intro H' s' k'
      obtain ⟨b1, b2⟩ := back H' ρ1 s' k'
      exact ⟨b1, fun H'' e1 e2 => q H'' (b2 H'' e1 e2).1 (b2 H'' e1 e2).2⟩
end
end DL
end
section
namespace DL
open PySem PySem.Spec L2 DLS
open PyProof.Rows hiding St
/-! ### dicts whose keys are tuples of numbers, texts, tuples -/
mutual
def keyX : D → Option NestedKey
  | .non => some .none
  | .int i => some (.num i)
  | .str x => some (.text x)
  | .tup ds => (keyXs ds).map .tup
  | _ => none
def keyXs : List D → Option (List NestedKey)
  | [] => some []
  | d :: ds => (keyX d).bind fun k => (keyXs ds).map (k :: ·)
end
mutual
theorem keyX_nk : ∀ k : NestedKey, keyX (nkD k) = some k
  | .none => rfl
  | .num _ => rfl
  | .text _ => rfl
  | .tup ks => by rw [nkD, keyX, keyXs_nk ks]; rfl
theorem keyXs_nk : ∀ ks : List NestedKey, keyXs (nkDs ks) = some ks
  | [] => rfl
  | k :: ks => by rw [nkDs, keyXs, keyX_nk k, keyXs_nk ks]; rfl
end
mutual
theorem nk_keyX : ∀ {d : D} {k : NestedKey}, keyX d = some k → nkD k = d
  | .non, k, h => by simp [keyX] at h; subst h; rfl
  | .int i, k, h => by simp [keyX] at h; subst h; rfl
  | .str i, k, h => by simp [keyX] at h; subst h; rfl
  | .tup ds, k, h => by
    simp only [keyX, Option.map_eq_some_iff] at h
    obtain ⟨ks, h1, rfl⟩ := h
    rw [nkD, nks_keyX h1]
  | .bl _, k, h => by simp [keyX] at h
  | .lst _, k, h => by simp [keyX] at h
  | .dic _ _, k, h => by simp [keyX] at h
  | .ins _ _ _, k, h => by simp [keyX] at h
theorem nks_keyX : ∀ {ds : List D} {ks : List NestedKey}, keyXs ds = some ks → nkDs ks = ds
  | [], ks, h => by simp [keyXs] at h; subst h; rfl
  | d :: ds, ks, h => by
    simp only [keyXs, Option.bind_eq_some_iff, Option.map_eq_some_iff] at h
    obtain ⟨k, h1, ks', h2, rfl⟩ := h
    rw [nkDs, nk_keyX h1, nks_keyX h2]
end
section
variable {m : Md} {H : Hp} {X : Cx} {pins : List (Addr × Obj)} {σ : L2.St} {s : Shared}
mutual
theorem keyX_is (I : Inv X pins σ H s) (hm : m.K = X.K) : ∀ {d : D} {v : V} {u : Value} {k : NestedKey}, Rep m H v d → keyX d = some k → L2.RelV v u → NestedIs s.heap k u
  | .non, v, u, k, r, h, ru => by
    simp [keyX] at h; subst h
    cases r
    cases ru
    exact .none
  | .int i, v, u, k, r, h, ru => by
    simp [keyX] at h; subst h
    cases r
    obtain ⟨t, rfl⟩ := ru
    exact .int _ _
  | .str i, v, u, k, r, h, ru => by
    simp [keyX] at h; subst h
    cases r
    obtain ⟨t, rfl⟩ := ru
    exact .text _ _
  | .tup ds, v, u, k, r, h, ru => by
    simp only [keyX, Option.map_eq_some_iff] at h
    obtain ⟨ks, h1, rfl⟩ := h
    cases r with
    | tup hq rl =>
      rw [hm] at hq
      obtain ⟨its, rv, ⟨o, ho, hc, n, hd⟩, _⟩ := I.tuple hq
      cases ru
      exact .tup ho hc hd (by simpa using keyXs_is I hm rl h1 rv)
  | .bl _, _, _, k, _, h, _ => by simp [keyX] at h
  | .lst _, _, _, k, _, h, _ => by simp [keyX] at h
  | .dic _ _, _, _, k, _, h, _ => by simp [keyX] at h
  | .ins _ _ _, _, _, k, _, h, _ => by simp [keyX] at h
theorem keyXs_is (I : Inv X pins σ H s) (hm : m.K = X.K) : ∀ {ds : List D} {vs : List V} {us : List Value} {ks : List NestedKey}, RepL m H vs ds → keyXs ds = some ks → Vals vs us → NestedAll s.heap ks us
  | [], _, _, ks, r, h, ru => by
    simp [keyXs] at h; subst h
    cases r
    cases ru
    exact .nil
  | d :: ds, _, _, ks, r, h, ru => by
    simp only [keyXs, Option.bind_eq_some_iff, Option.map_eq_some_iff] at h
    obtain ⟨k, h1, ks', h2, rfl⟩ := h
    cases r with
    | cons a b =>
      cases ru with
      | cons c e => exact .cons (keyX_is I hm a h1 c) (keyXs_is I hm b h2 e)
end
end
/-- a key that is a tuple -/
def isNK (d : D) : Bool := match d, keyX d with
  | .tup _, some k => decide (k.depth ≤ 8)
  | _, _ => false
theorem isNK_inv {d : D} (h : isNK d = true) : ∃ ds k, d = .tup ds ∧ keyX d = some k ∧ k.depth ≤ 8 := by
  unfold isNK at h
  split at h
  · rename_i ds k e
    exact ⟨ds, k, rfl, e, of_decide_eq_true h⟩
  · cases h
def sameN (a b : D) : Bool := match keyX a, keyX b with
  | some k, some j => decide (k = j)
  | _, _ => false
theorem sameN_key {k j : NestedKey} {d : D} (h : keyX d = some j) : sameN (nkD k) d = decide (k = j) := by unfold sameN; rw [keyX_nk, h]
def getN (x : D) : List D → List D → Option D
  | k :: ks, v :: vs => if sameN k x = true then some v else getN x ks vs
  | _, _ => none
def putN (x d : D) (ks vs : List D) : List D × List D :=
  if (ks.any fun k => sameN k x) = true then (ks, (ks.zip vs).map fun p => if sameN p.1 x = true then d else p.2) else (ks ++ [x], vs ++ [d])
/-- a dict with the entries kvs, read -/
structure Nd (m : Md) (H : Hp) (a : Addr) (kvs : List NEnt) (ks : List D) : Prop where
  ob : Rd H a (NdO m.w a kvs) ∨ kvs = [] ∧ Rd H a (.dK [])
  ks_ : ks = kvs.map fun p => nkD p.1
  rp : RepL m H (kvs.map fun p => V.ref p.2.1) ks
  nk : ks.all isNK = true
def rowsN (kvs : List NEnt) (us : List Value) : List (NestedKey × Addr × Value) := (kvs.zip us).map fun p => (p.1.1, p.1.2.1, p.2)
section
variable {m : Md} {H : Hp} {X : Cx} {pins : List (Addr × Obj)} {σ : L2.St} {s : Shared} {a : Addr} {kvs : List NEnt} {ks : List D}
theorem Nd.keys (n : Nd m H a kvs ks) (I : Inv X pins σ H s) (hm : m.K = X.K) : ∀ p ∈ kvs, (nestedKind X.prog X.w).is s.heap p.1 p.2.1 := fun p hp => by
  obtain ⟨i, hi, e⟩ := List.mem_iff_getElem.mp hp
  have e1 : (kvs.map fun p => V.ref p.2.1)[i]? = some (.ref p.2.1) := by rw [List.getElem?_map, List.getElem?_eq_getElem hi, e]; rfl
  obtain ⟨d, g1, g2⟩ := n.rp.getV e1
  have e2 : d = nkD p.1 := by
    rw [n.ks_, List.getElem?_map, List.getElem?_eq_getElem hi, e] at g1
    simpa using g1.symm
  have hk := List.all_eq_true.mp n.nk d (List.mem_of_getElem? g1)
  obtain ⟨ds, k, _, h1, h2⟩ := isNK_inv hk
  rw [e2, keyX_nk] at h1
  cases h1
  exact ⟨keyX_is I hm g2 (by rw [e2, keyX_nk]) rfl, h2⟩
theorem Nd.dict (n : Nd m H a kvs ks) (I : Inv X pins σ H s) (hm : m.K = X.K) (hw : m.w = X.w) : ∃ us, Vals (kvs.map (·.2.2)) us ∧ kvs.length ≤ sizeLine ∧ (a == sysModules) = false ∧ s.heap.DictOfH (nestedKind X.prog X.w) a (rowsN kvs us) := by
  have isk := n.keys I hm
  rcases n.ob with o | ⟨rfl, o⟩
  · obtain ⟨⟨z, hd, us, hv, ob, es, ep, h1, h2, h3, h4, h5⟩, _⟩ := (show ObjOk X.prog X.w H s.heap a (NdO m.w a kvs) from Rd.ok o I.hok)
    refine ⟨us, hv, z, hd, ob, es, ep, h1, h2, h3, ?_, ?_, ?_⟩
    · rw [h4, rowsN, List.map_map, hw]; rfl
    · intro x hx
      obtain ⟨p, hp, rfl⟩ := List.mem_map.mp hx
      exact isk p.1 (List.of_mem_zip hp).1
    · have hl : kvs.length = us.length := by have := hv.length; simpa using this
      have : (rowsN kvs us).map (·.1) = kvs.map (·.1) := by
        unfold rowsN
        rw [List.map_map]
        have e : ((fun x : NestedKey × Addr × Value => x.1) ∘ fun p : NEnt × Value => (p.1.1, p.1.2.1, p.2)) = (fun p : NEnt => p.1) ∘ Prod.fst := rfl
        rw [e, ← List.map_map, List.map_fst_zip (by omega)]
      rw [this]; exact h5
  · obtain ⟨z, hd, vs, rel, ob, es, ep, h1, h2, h3, h4, h5, h6⟩ := dk_rd I.hok o
    have ev : vs = [] := by cases rel; rfl
    subst ev
    refine ⟨[], .nil, Nat.zero_le _, hd, ob, es, ep, h1, h2, h3, ?_, fun x hx => absurd hx List.not_mem_nil, List.nodup_nil⟩
    cases q : es.toList with
    | nil => rfl
    | cons x l => rw [q] at h5; cases h5
theorem at_rows {x : D} {k : NestedKey} (hk : keyX x = some k) : ∀ {kvs : List NEnt} {us : List Value} {ds : List D}, Vals (kvs.map (·.2.2)) us → RepL m H (kvs.map (·.2.2)) ds →
    (∀ d, getN x (kvs.map fun p => nkD p.1) ds = some d → ∃ b v u, atKey (rowsN kvs us) k = some (b, u) ∧ L2.RelV v u ∧ Rep m H v d) ∧ (getN x (kvs.map fun p => nkD p.1) ds = none → atKey (rowsN kvs us) k = none)
  | [], us, ds, hv, r => by
    cases r; cases hv
    exact ⟨fun d h => by simp [getN] at h, fun _ => rfl⟩
  | p :: l, us, ds, hv, r => by
    cases r with
    | cons r1 r2 =>
      cases hv with
      | cons v1 v2 =>
        rename_i d0 ds u us
        obtain ⟨i1, i2⟩ := at_rows hk v2 r2
        by_cases c : p.1 = k
        · have e : atKey (rowsN (p :: l) (u :: us)) k = some (p.2.1, u) := by simp [rowsN, atKey, c]
          refine ⟨fun d h => ?_, fun h => ?_⟩
          · simp only [List.map_cons, getN, sameN_key hk, c, decide_true, if_true] at h
            cases h
            exact ⟨_, _, _, e, v1, r1⟩
          · simp only [List.map_cons, getN, sameN_key hk, c, decide_true, if_true] at h
            cases h
        · have e : atKey (rowsN (p :: l) (u :: us)) k = atKey (rowsN l us) k := by simp [rowsN, atKey, c]
          rw [e]
          simp only [List.map_cons, getN, sameN_key hk, c, decide_false]
          exact ⟨i1, i2⟩
end
theorem any_get {x : D} : ∀ {ks ds : List D}, ks.length = ds.length → (ks.any fun k => sameN k x) = (getN x ks ds).isSome
  | [], [], _ => rfl
  | k :: ks, [], h => by simp at h
  | [], d :: ds, h => by simp at h
  | k :: ks, d :: ds, h => by
    rw [List.any_cons, getN]
    by_cases c : sameN k x = true
    · simp [c]
    · simp only [c, Bool.false_or, if_false]
      exact any_get (by simpa using h)
/-! reading -/
def inN (x y : D) : Option D := match y with
  | .dic ks _ => if (isNK x && ks.all isNK) = true then some (.bl (ks.any fun k => sameN k x)) else none
  | _ => none
def ninN (x y : D) : Option D := match y with
  | .dic ks _ => if (isNK x && ks.all isNK) = true then some (.bl (!ks.any fun k => sameN k x)) else none
  | _ => none
def ixN' (y x : D) : Option D := match y with
  | .dic ks vs => if (isNK x && ks.all isNK) = true then getN x ks vs else none
  | _ => none
/-- y is a dict (frozen or own) with entries, x a key of its kind -/
def NdK (m : Md) (H : Hp) (x : V) (k : NestedKey) : Prop := ∃ b d, x = V.ref b ∧ Rep m H (.ref b) d ∧ keyX d = some k ∧ k.depth ≤ 8
def rInN (m : Md) : R2 := fun x y H Q => ∃ a kvs ks ds k d, y = .ref a ∧ Nd m H a kvs ks ∧ RepL m H (kvs.map (·.2.2)) ds ∧ NdK m H x k ∧ keyX d = some k ∧ Q (.bl (getN d ks ds).isSome) H
def rNinN (m : Md) : R2 := fun x y H Q => ∃ a kvs ks ds k d, y = .ref a ∧ Nd m H a kvs ks ∧ RepL m H (kvs.map (·.2.2)) ds ∧ NdK m H x k ∧ keyX d = some k ∧ Q (.bl (!(getN d ks ds).isSome)) H
def rIxN (m : Md) : R2 := fun y x H Q => ∃ a kvs ks ds k d e, y = .ref a ∧ Nd m H a kvs ks ∧ RepL m H (kvs.map (·.2.2)) ds ∧ NdK m H x k ∧ keyX d = some k ∧ getN d ks ds = some e ∧ ∀ v, Rep m H v e → Q v H
section
variable {m : Md} {X : Cx}
theorem some_rows {H : Hp} {kvs : List NEnt} {us : List Value} {ds ks : List D} {d : D} {k : NestedKey} (hk : keyX d = some k) (hv : Vals (kvs.map (·.2.2)) us) (r : RepL m H (kvs.map (·.2.2)) ds) (e : ks = kvs.map fun p => nkD p.1) : (atKey (rowsN kvs us) k).isSome = (getN d ks ds).isSome := by
  subst e
  obtain ⟨i1, i2⟩ := at_rows hk hv r
  cases g : getN d (kvs.map fun p => nkD p.1) ds with
  | none => rw [i2 g]; rfl
  | some z => obtain ⟨b, v, u, h, _⟩ := i1 z g; rw [h]; rfl
theorem op_inN (hm : m = ⟨X.K, X.mg, X.w⟩) (hv : X.A.units + 130 < cLine) : OpR X (compareOp .In) (rInN m) := by
  intro pins s σ H x y v u Q I rx ry ⟨a, kvs, ks, ds, k, d, ey, n, r, ⟨b, d', ex, rb, kd, kp⟩, hk, q⟩
  subst ey ex
  cases rx; cases ry
  obtain ⟨us, h1, _, h3, h4⟩ := n.dict I (by rw [hm]) (by rw [hm])
  refine wpAny_in_heap (knd := nestedKind X.prog X.w) (show X.A.units + 1 + 8 < cLine by omega) ⟨keyX_is I (by rw [hm]) rb kd rfl, kp⟩ h3 h4 ?_
  rw [some_rows hk h1 r n.ks_]
  exact ⟨.bl _, H, I.kept fun _ _ z => z, rfl, q⟩
theorem op_ninN (hm : m = ⟨X.K, X.mg, X.w⟩) (hv : X.A.units + 130 < cLine) : OpR X (compareOp .NotIn) (rNinN m) := by
  intro pins s σ H x y v u Q I rx ry ⟨a, kvs, ks, ds, k, d, ey, n, r, ⟨b, d', ex, rb, kd, kp⟩, hk, q⟩
  subst ey ex
  cases rx; cases ry
  obtain ⟨us, h1, _, h3, h4⟩ := n.dict I (by rw [hm]) (by rw [hm])
  refine notIn_keyed (knd := nestedKind X.prog X.w) (show X.A.units + 1 + 8 < cLine by omega) ⟨keyX_is I (by rw [hm]) rb kd rfl, kp⟩ h3 ⟨_, h4, rfl⟩ ?_
  rw [valueAt_pairsH, Option.isSome_map, some_rows hk h1 r n.ks_]
  exact ⟨.bl _, H, I.kept fun _ _ z => z, rfl, q⟩
theorem ix_N (hm : m = ⟨X.K, X.mg, X.w⟩) (hv : X.A.units + 130 < cLine) : IxR X (rIxN m) := by
  intro value slice pins s σ H y x v u Q I ry rx ⟨a, kvs, ks, ds, k, d, e, ey, n, r, ⟨b, d', ex, rb, kd, kp⟩, hk, hg, q⟩ hs
  subst ey ex
  cases rx; cases ry
  obtain ⟨us, h1, _, h3, h4⟩ := n.dict I (by rw [hm]) (by rw [hm])
  rw [n.ks_] at hg
  obtain ⟨b', v', u', g1, g2, g3⟩ := (at_rows hk h1 r).1 e hg
  refine tail_any h4.typeIs slot_dict_getitem.lookup (wpAny_getItem_heap (knd := nestedKind X.prog X.w) (show X.A.units + 1 + 8 < cLine by omega) ⟨keyX_is I (by rw [hm]) rb kd rfl, kp⟩ h4 g1 ?_) hs
  exact ⟨v', H, I.kept fun _ _ z => z, g2, q v' g3⟩
theorem ndK_of {H : Hp} {x : V} {dx : D} (r : Rep m H x dx) (h : isNK dx = true) : ∃ k, NdK m H x k ∧ keyX dx = some k := by
  obtain ⟨ds, k, rfl, h1, h2⟩ := isNK_inv h
  cases r with
  | tup q rl => exact ⟨k, ⟨_, _, rfl, .tup q rl, h1, h2⟩, h1⟩
/-- a frozen dict with nested keys (or the empty one) -/
theorem nd_frz {H : Hp} {y : V} {ks ds : List D} (r : Rep m H y (.dic ks ds)) (h : ks.all isNK = true) : ∃ a kvs, y = .ref a ∧ Nd m H a kvs ks ∧ RepL m H (kvs.map (·.2.2)) ds ∧ ks.length = ds.length := by
  cases r with
  | @dicK a o kvs _ q rl =>
    cases kvs with
    | nil =>
      cases rl
      exact ⟨a, [], rfl, ⟨.inr ⟨rfl, .inr ⟨o, q⟩⟩, rfl, .nil, rfl⟩, .nil, rfl⟩
    | cons p l =>
      rw [List.map_cons, List.all_cons, Bool.and_eq_true] at h
      obtain ⟨k, v⟩ := p
      cases k <;> exact absurd h.1 (by simp [keyD, isNK])
  | @dicN a o kvs _ _ q n e r1 r2 => exact ⟨a, kvs, rfl, ⟨.inl (.inr ⟨o, q⟩), e, r1, h⟩, r2, by rw [← r1.len, ← r2.len]; simp⟩
theorem opd_inN : OpD m (rInN m) inN := fun x y dx dy d H Q rx ry e k => by
  unfold inN at e
  split at e
  · rename_i ks ds
    by_cases c : (isNK dx && ks.all isNK) = true
    · rw [if_pos c] at e; cases e
      rw [Bool.and_eq_true] at c
      obtain ⟨a, kvs, rfl, n, r, hl⟩ := nd_frz ry c.2
      obtain ⟨ky, h1, h2⟩ := ndK_of rx c.1
      exact ⟨a, kvs, ks, ds, ky, dx, rfl, n, r, h1, h2, k _ H Grow.rfl (by rw [← any_get hl]; exact .bl _)⟩
    · rw [if_neg c] at e; cases e
  · cases e
theorem opd_ninN : OpD m (rNinN m) ninN := fun x y dx dy d H Q rx ry e k => by
  unfold ninN at e
  split at e
  · rename_i ks ds
    by_cases c : (isNK dx && ks.all isNK) = true
    · rw [if_pos c] at e; cases e
      rw [Bool.and_eq_true] at c
      obtain ⟨a, kvs, rfl, n, r, hl⟩ := nd_frz ry c.2
      obtain ⟨ky, h1, h2⟩ := ndK_of rx c.1
      exact ⟨a, kvs, ks, ds, ky, dx, rfl, n, r, h1, h2, k _ H Grow.rfl (by rw [← any_get hl]; exact .bl _)⟩
    · rw [if_neg c] at e; cases e
  · cases e
theorem opd_ixN : OpD m (rIxN m) ixN' := fun y x dy dx d H Q ry rx e k => by
  unfold ixN' at e
  split at e
  · rename_i ks ds
    by_cases c : (isNK dx && ks.all isNK) = true
    · rw [if_pos c] at e
      rw [Bool.and_eq_true] at c
      obtain ⟨a, kvs, rfl, n, r, hl⟩ := nd_frz ry c.2
      obtain ⟨ky, h1, h2⟩ := ndK_of rx c.1
      exact ⟨a, kvs, ks, ds, ky, dx, d, rfl, n, r, h1, h2, e, fun v rv => k v H Grow.rfl rv⟩
    · rw [if_neg c] at e; cases e
  · cases e
end
end DL
end
section
namespace DL
open PySem PySem.Spec L2 DLS
open PyProof.Rows hiding St
/-! ### d[k] = v, d an own dict with nested keys -/
def putE (kvs : List NEnt) (k : NestedKey) (b : Addr) (v : V) : List NEnt :=
  if (kvs.any fun p => decide (p.1 = k)) = true then kvs.map fun p => if p.1 = k then (p.1, p.2.1, v) else p else kvs ++ [(k, b, v)]
theorem putE_len (kvs : List NEnt) (k : NestedKey) (b : Addr) (v : V) : (putE kvs k b v).length ≤ kvs.length + 1 := by
  unfold putE
  split
  · rw [List.length_map]; omega
  · simp
theorem putE_ne (kvs : List NEnt) (k : NestedKey) (b : Addr) (v : V) : putE kvs k b v ≠ [] := by
  unfold putE
  split
  · rename_i h
    intro z
    have : kvs = [] := by simpa using z
    subst this
    simp at h
  · simp
theorem any_rows {kvs : List NEnt} {us : List Value} (hl : kvs.length = us.length) (k : NestedKey) : (atKey (rowsN kvs us) k).isSome = kvs.any fun p => decide (p.1 = k) := by
  induction kvs generalizing us with
  | nil => cases us <;> simp [rowsN, atKey]
  | cons p l ih =>
    cases us with
    | nil => simp at hl
    | cons u us =>
      have ih := ih (us := us) (by simpa using hl)
      by_cases c : p.1 = k
      · simp [rowsN, atKey, c]
      · simpa [rowsN, atKey, c] using ih
theorem stored_rows {k : NestedKey} {b : Addr} {v : V} {u : Value} (rv : L2.RelV v u) : ∀ {kvs : List NEnt} {us : List Value}, Vals (kvs.map (·.2.2)) us → ∃ us', Vals ((putE kvs k b v).map (·.2.2)) us' ∧ storedH (rowsN kvs us) k b u = rowsN (putE kvs k b v) us' := by
  intro kvs us hv
  have hl : kvs.length = us.length := by have := hv.length; simpa using this
  unfold storedH putE
  rw [any_rows hl]
  by_cases c : (kvs.any fun p => decide (p.1 = k)) = true
  · rw [if_pos c, if_pos c]
    clear c
    induction kvs generalizing us with
    | nil =>
      cases us with
      | nil => exact ⟨[], .nil, rfl⟩
      | cons u us => simp at hl
    | cons p l ih =>
      cases us with
      | nil => simp at hl
      | cons u0 us =>
        cases hv with
        | cons v1 v2 =>
          obtain ⟨us', h1, h2⟩ := ih v2 (by simpa using hl)
          by_cases c : p.1 = k
          · refine ⟨u :: us', ?_, ?_⟩
            · simp only [List.map_cons, c, if_true]; exact .cons rv h1
            · simp only [rowsN, List.zip_cons_cons, List.map_cons, putAt, c, if_true] at h2 ⊢
              rw [h2]
          · refine ⟨u0 :: us', ?_, ?_⟩
            · simp only [List.map_cons, c, if_false]; exact .cons v1 h1
            · simp only [rowsN, List.zip_cons_cons, List.map_cons, putAt, c, if_false] at h2 ⊢
              rw [h2]
  · rw [if_neg c, if_neg c]
    refine ⟨us ++ [u], ?_, ?_⟩
    · rw [List.map_append]
      exact hv.append (.cons rv .nil)
    · unfold rowsN
      rw [List.zip_append hl, List.map_append]; rfl
def rSetNd (m : Md) : TSet := fun o i v H Q => ∃ a kvs ks k b d, o = .ref a ∧ (H a = some (NdO m.w a kvs) ∨ kvs = [] ∧ H a = some (.dK [])) ∧ Nd m H a kvs ks ∧ i = .ref b ∧ Rep m H (.ref b) d ∧ keyX d = some k ∧ k.depth ≤ 8 ∧ kvs.length < sizeLine ∧ Q (upd H a (NdO m.w a (putE kvs k b v)))
section
variable {m : Md} {X : Cx}
theorem set_N (hm : m = ⟨X.K, X.mg, X.w⟩) (hv : X.A.units + 130 < cLine) : PSet X (rSetNd m) := by
  intro pins s σ H o i v ov iv u Q I ro ri rv ⟨a, kvs, ks, k, b, d, eo, ob, n, ei, rb, kd, kp, hl, q⟩
  subst eo ei
  cases (show ov = Value.ref a from ro)
  cases (show iv = Value.ref b from ri)
  obtain ⟨us, h1, h2, h3, h4⟩ := n.dict I (by rw [hm]) (by rw [hm])
  have len : (rowsN kvs us).length ≤ sizeLine := by
    unfold rowsN; rw [List.length_map, List.length_zip]; omega
  refine wpAny_setItem_heap (knd := nestedKind X.prog X.w) (show X.A.units + 1 + 8 < cLine by omega) ⟨keyX_is I (by rw [hm]) rb kd rfl, kp⟩ h4 (fun h' dd hs => ?_) len
  obtain ⟨us', g1, g2⟩ := stored_rows (k := k) (b := b) rv h1
  rw [g2] at dd
  obtain ⟨o', es, ep, e1, e2, e3, e4, e5, e6⟩ := dd
  have mu : Mut (H a) := by rcases ob with z | ⟨_, z⟩ <;> (rw [z]; trivial)
  have hl' : (putE kvs k b v).length = us'.length := by have := g1.length; simpa using this
  have nod : ((putE kvs k b v).map (·.1)).Nodup := by
    have : (rowsN (putE kvs k b v) us').map (·.1) = (putE kvs k b v).map (·.1) := by
      unfold rowsN
      rw [List.map_map]
      have e : ((fun x : NestedKey × Addr × Value => x.1) ∘ fun p : NEnt × Value => (p.1.1, p.1.2.1, p.2)) = (fun p : NEnt => p.1) ∘ Prod.fst := rfl
      rw [e, ← List.map_map, List.map_fst_zip (by omega)]
    rw [← this]; exact e6
  have hw : m.w = X.w := by rw [hm]
  have phi : ∀ h2 : Heap, (∀ o, h'.get? a = some o → h2.get? a = some o) → NdH m.w a (putE kvs k b v) h2 := fun h2 kp2 =>
    ⟨by have := putE_len kvs k b v; omega, h3, us', g1, o', es, ep, kp2 o' e1, e2, e3, by rw [e4, rowsN, List.map_map, hw]; rfl, nod⟩
  refine ⟨_, d_write (ob := NdO m.w a (putE kvs k b v)) I mu hs ⟨o', e1⟩ ⟨phi h' fun _ z => z, ⟨o', e1⟩, fun h1 h2 ⟨z, hd, us2, w1, o2, es2, ep2, w2, w3⟩ kp2 => ⟨z, hd, us2, w1, o2, es2, ep2, kp2 o2 w2, w3⟩⟩, q⟩
theorem putN_rep {H : Hp} {d dv : D} {k : NestedKey} {b : Addr} {v : V} (rb : Rep m H (.ref b) d) (kd : keyX d = some k) (rv : Rep m H v dv) {kvs : List NEnt} {ds : List D} (r1 : RepL m H (kvs.map fun p => V.ref p.2.1) (kvs.map fun p => nkD p.1)) (r2 : RepL m H (kvs.map (·.2.2)) ds) :
    (putN d dv (kvs.map fun p => nkD p.1) ds).1 = (putE kvs k b v).map (fun p => nkD p.1) ∧ RepL m H ((putE kvs k b v).map fun p => V.ref p.2.1) ((putE kvs k b v).map fun p => nkD p.1) ∧ RepL m H ((putE kvs k b v).map (·.2.2)) (putN d dv (kvs.map fun p => nkD p.1) ds).2 := by
  have ea : ((kvs.map fun p => nkD p.1).any fun k' => sameN k' d) = kvs.any fun p => decide (p.1 = k) := by
    rw [List.any_map]
    congr 1
    funext p
    exact sameN_key kd
  unfold putN putE
  rw [ea]
  by_cases z : (kvs.any fun p => decide (p.1 = k)) = true
  · rw [if_pos z, if_pos z]
    have e1 : ∀ {β : Type} (f : NEnt → β) (hf : ∀ (p : NEnt) (v : V), f (p.1, p.2.1, v) = f p), (kvs.map fun p => if p.1 = k then (p.1, p.2.1, v) else p).map f = kvs.map f := fun f hf => by
      rw [List.map_map]
      refine List.map_congr_left fun p _ => ?_
      by_cases c : p.1 = k
      · simp only [Function.comp, c, if_true]; rw [← c]; exact hf p v
      · simp only [Function.comp, c, if_false]
    refine ⟨(e1 _ fun _ _ => rfl).symm, by rw [e1 _ fun _ _ => rfl, e1 _ fun _ _ => rfl]; exact r1, ?_⟩
    clear ea z e1 r1
    induction kvs generalizing ds with
    | nil => cases r2; exact .nil
    | cons p l ih =>
      cases r2 with
      | cons a1 a2 =>
        simp only [List.map_cons, List.zip_cons_cons]
        refine .cons ?_ (ih a2)
        rw [sameN_key kd]
        by_cases c : p.1 = k
        · simp only [c, if_true, decide_true]; exact rv
        · simp only [c, if_false, decide_false]; exact a1
  · rw [if_neg z, if_neg z]
    simp only [List.map_append, List.map_cons, List.map_nil]
    have : nkD k = d := nk_keyX kd
    exact ⟨by rw [this], r1.append (.cons (by rw [this]; exact rb) .nil), r2.append (.cons rv .nil)⟩
/-- d[k] = v -/
def setND (c : OC) (k d : D) : Option OC := match c with
  | .k ks vs => if (isNK k && ks.all isNK) = true ∧ ks.length < sizeLine then some (.k (putN k d ks vs).1 (putN k d ks vs).2) else none
  | _ => none
/-- an own dict with nested keys (or the empty one) -/
theorem nd_own {H : Hp} {a : Addr} {o : HO} {ks ds : List D} (e : H a = some o) (r : RepO m H a o (.k ks ds)) (h : ks.all isNK = true) : ∃ kvs, (H a = some (NdO m.w a kvs) ∨ kvs = [] ∧ H a = some (.dK [])) ∧ Nd m H a kvs ks ∧ RepL m H (kvs.map (·.2.2)) ds ∧ ks.length = ds.length := by
  rcases r with ⟨kvs, rfl, rfl, r⟩ | ⟨kvs, rfl, n, e2, r1, r2⟩
  · cases kvs with
    | nil =>
      cases r
      exact ⟨[], .inr ⟨rfl, e⟩, ⟨.inr ⟨rfl, .inl e⟩, rfl, .nil, rfl⟩, .nil, rfl⟩
    | cons p l =>
      rw [List.map_cons, List.all_cons, Bool.and_eq_true] at h
      obtain ⟨k, v⟩ := p
      cases k <;> exact absurd h.1 (by simp [keyD, isNK])
  · exact ⟨kvs, .inl e, ⟨.inl (.inl e), e2, r1, h⟩, r2, by rw [← r1.len, ← r2.len]; simp⟩
theorem setc_N : SetC m (rSetNd m) setND := fun a o y v c c' dy d H Q ha ro ry rv e k => by
  unfold setND at e
  cases c with
  | l xs => cases e
  | k ks vs =>
    by_cases h : (isNK dy && ks.all isNK) = true ∧ ks.length < sizeLine
    · simp only [h, and_self, if_true] at e
      cases e
      obtain ⟨h1, h2⟩ := h
      rw [Bool.and_eq_true] at h1
      obtain ⟨kvs, ob, n, r, hl⟩ := nd_own ha ro h1.2
      obtain ⟨ky, ⟨b, d', rfl, rb, kd, kp⟩, kd'⟩ := ndK_of ry h1.1
      have r1 := n.rp
      have e2 := n.ks_
      rw [e2] at r1
      obtain ⟨w1, w2, w3⟩ := putN_rep (b := b) ry kd' rv r1 r
      have hk : kvs.length < sizeLine := by rw [e2] at h2; simpa using h2
      refine ⟨a, kvs, ks, ky, b, d', rfl, ob, n, rfl, rb, kd, kp, hk, ?_⟩
      rw [← e2] at w1 w3
      refine k _ (.inr ⟨_, rfl, putE_ne _ _ _ _, w1, by rw [w1]; exact w2, w3⟩)
    · simp only [h, if_false] at e; cases e
/-! ### all kinds of dicts -/
theorem pset_or {r r' : TSet} (h : PSet X r) (h' : PSet X r') : PSet X (fun o i v H Q => r o i v H Q ∨ r' o i v H Q) := by
  intro pins s σ H o i v ov iv u Q I ro ri rv q
  rcases q with q | q
  · exact h pins s σ H o i v ov iv u Q I ro ri rv q
  · exact h' pins s σ H o i v ov iv u Q I ro ri rv q
theorem SetC.or {r r' : TSet} {g g' : OC → D → D → Option OC} (h : SetC m r g) (h' : SetC m r' g') : SetC m (fun o i v H Q => r o i v H Q ∨ r' o i v H Q) (fun c k d => (g c k d).or (g' c k d)) := fun a o y v c c' dy d H Q ha ro ry rv e k => by
  have e : (g c dy d).or (g' c dy d) = some c' := e
  cases q : g c dy d with
  | some z => rw [q] at e; cases e; exact .inl (h a o y v c _ dy d H Q ha ro ry rv q k)
  | none => rw [q] at e; exact .inr (h' a o y v c c' dy d H Q ha ro ry rv e k)
def setAD (c : OC) (k d : D) : Option OC := (setKD c k d).or (setND c k d)
def rSetA (m : Md) : TSet := fun o i v H Q => rSetD o i v H Q ∨ rSetNd m o i v H Q
theorem set_A (hv : X.A.units + 130 < cLine) : PSet X (rSetA ⟨X.K, X.mg, X.w⟩) := pset_or (set_dict (X := X) (by omega)) (set_N rfl hv)
theorem setc_A : SetC m (rSetA m) setAD := setc_flat.or setc_N
/-- d[k], d an own container -/
def OpC (m : Md) (r : R2) (g : OC → D → Option D) : Prop := ∀ (a : Addr) (o : HO) (y : V) (c : OC) (dy d : D) (H : Hp) (Q : VK), H a = some o → RepO m H a o c → Rep m H y dy → g c dy = some d → (∀ v H', Grow H H' → Rep m H' v d → Q v H') → r (.ref a) y H Q
def opC (i : Nat) (g : OC → D → Option D) (fb : M D) : M D := bindM fb fun y => bindM (getC i) fun c => liftM (g c y)
theorem de_ixC {G : Gh} {W : WX} {b : Expr} {pos : Pos} (i : Nat) {x : Str} {r : R2} {g : OC → D → Option D} {fb : M D} {pos' : Pos} (ho : IxR X r) (hr : OpC G.m r g) (hb : DE X G W b fb) (hN : X.N[i]? = some x) (hv : Vis X.env.scope x := by first | exact .inl rfl | exact .inr (.inl rfl) | exact .inr (.inr rfl)) (hs : PlainIx b := by exact fun _ _ => rfl) (hd : (x == ("__debug__" : Str)) = false := by decide) (hcd : (x == ("__classdict__" : Str)) = false := by decide) :
    DE X G W (.Subscript (.Name x pos') b pos) (bindM (getC i) fun _ => opC i g fb) := pe_imp (pe_ix ho (pe_var (i := i) hN hv hd hcd) hb hs) fun σ H Q ⟨ρ, k, q⟩ => by
  obtain ⟨xs0, e0, q⟩ := getC_run q
  obtain ⟨a, vs0, h1, _⟩ := k.own i xs0 e0
  refine ⟨_, h1, ρ, k, q.bind.mono fun y ρ1 H1 _ s1 k1 q1 w rw' => ?_⟩
  obtain ⟨c, e1, q1⟩ := getC_run q1
  obtain ⟨a', o, g1, g2, g3, _⟩ := k1.own i c e1
  rw [h1] at g1; injection g1 with g1; injection g1 with g1; injection g1 with g1
  subst g1
  obtain ⟨d, e, q3⟩ := q1.lift k1
  exact hr a o w c y d H1 Q g2 g3 rw' e fun u H3 g3 r3 => q3 H3 g3.stable (k1.grow g3) u r3
/-- flat and nested -/
def ixC (c : OC) (y : D) : Option D := match c with
  | .k ks vs => if (isK y && ks.all isK) = true then dicGet y ks vs else if (isNK y && ks.all isNK) = true then getN y ks vs else none
  | .l _ => none
def rIxC (m : Md) : R2 := fun x y H Q => (∃ a v, x = .ref a ∧ DGet H a y (some v) ∧ Q v H) ∨ rIxN m x y H Q
theorem ix_C (hv : X.A.units + 130 < cLine) : IxR X (rIxC ⟨X.K, X.mg, X.w⟩) := IxR.or (by
  intro value slice pins s σ H x y v u Q I rx ry ⟨a, w, ex, g, q⟩ hs
  subst ex
  obtain rfl : v = Value.ref a := rx
  exact tail_any (dict_typeIs I g) slot_dict_getitem.lookup (d_getItem (by omega) I g ry fun w' s' I' rw' => ⟨w, H, I', rw', q⟩) hs) (ix_N rfl hv)
theorem opc_ix : OpC m (rIxC m) ixC := fun a o y c dy d H Q ha ro ry e k => by
  cases c with
  | l xs => cases e
  | k ks vs =>
    have e : (if (isK dy && ks.all isK) = true then dicGet dy ks vs else if (isNK dy && ks.all isNK) = true then getN dy ks vs else none) = some d := e
    by_cases c : (isK dy && ks.all isK) = true
    · rw [if_pos c] at e
      rw [Bool.and_eq_true] at c
      rcases ro with ⟨kvs, rfl, rfl, r⟩ | ⟨kvs, rfl, n, e2, r1, r2⟩
      · obtain ⟨ky, rfl, rfl⟩ := key_rep ry c.1
        obtain ⟨v, h1, h2⟩ := (dget_rep ky r).1 d e
        exact .inl ⟨a, v, rfl, h1 ▸ DGet.k ha, k v H Grow.rfl h2⟩
      · exact (notK r1 n c.2).elim
    · rw [if_neg c] at e
      by_cases c2 : (isNK dy && ks.all isNK) = true
      · rw [if_pos c2] at e
        rw [Bool.and_eq_true] at c2
        obtain ⟨kvs, ob, n, r, hl⟩ := nd_own ha ro c2.2
        obtain ⟨ky, h1, h2⟩ := ndK_of ry c2.1
        exact .inr ⟨a, kvs, ks, vs, ky, dy, d, rfl, n, r, h1, h2, e, fun v rv => k v H Grow.rfl rv⟩
      · rw [if_neg c2] at e; cases e
/-! data -/
def inX (x y : D) : Option D := (inD x y).or (inN x y)
def ninX (x y : D) : Option D := (ninD x y).or (ninN x y)
def ixX (x y : D) : Option D := (ixG x y).or (ixN' x y)
def rInX (m : Md) : R2 := fun x y H Q => rInA m.K x y H Q ∨ rInN m x y H Q
def rNinX (m : Md) : R2 := fun x y H Q => rNinA m.K x y H Q ∨ rNinN m x y H Q
def rIxX (m : Md) : R2 := fun x y H Q => rIxG m.K x y H Q ∨ rIxN m x y H Q
theorem op_inX (hv : X.A.units + 130 < cLine) : OpR X (compareOp .In) (rInX ⟨X.K, X.mg, X.w⟩) := (op_inA hv).or (op_inN rfl hv)
theorem op_ninX (hv : X.A.units + 130 < cLine) : OpR X (compareOp .NotIn) (rNinX ⟨X.K, X.mg, X.w⟩) := (op_ninA hv).or (op_ninN rfl hv)
theorem ix_X (hv : X.A.units + 130 < cLine) : IxR X (rIxX ⟨X.K, X.mg, X.w⟩) := (ix_G hv).or (ix_N rfl hv)
theorem opd_inX : OpD m (rInX m) inX := opd_in.or opd_inN
theorem opd_ninX : OpD m (rNinX m) ninX := opd_nin.or opd_ninN
theorem opd_ixX : OpD m (rIxX m) ixX := opd_ixG.or opd_ixN
end
/-! ### is True, is False -/
section
variable {m : Md}
def isBD : D → D → Option D
  | .bl a, .bl b => some (.bl (decide (a = b)))
  | _, _ => none
theorem opd_isB : OpD m rIsB isBD := fun x y dx dy d H Q rx ry e k => by
  cases rx with
  | bl a =>
    cases ry with
    | bl b => cases e; exact ⟨a, b, rfl, rfl, k _ H Grow.rfl (.bl _)⟩
    | _ => cases e
  | _ => cases e
end
end DL
end
section
namespace DL
open PySem PySem.Spec L2 DLS
open PyProof.Rows hiding St
/-! ### t[::-1], a tuple or a list -/
section
variable {prog : Program} {w : World} {A : Around} {E : Value → Shared → Prop} {s : Shared}
theorem rv_adj (n : Nat) : Builtin.Slice.sliceAdjust none none (-1) (n : Int) = ((n : Int) - 1, -1) := by
  unfold Builtin.Slice.sliceAdjust
  have h1 : ((-1 : Int) < 0) := by omega
  simp only [h1, if_true]
theorem rv_places (n : Nat) : Builtin.Slice.slicePlaces ((n : Int) - 1) (-1) (-1) = n := by
  unfold Builtin.Slice.slicePlaces
  have h1 : ¬ ((-1 : Int) > 0) := by omega
  have e : (((n : Int) - 1 - -1 - 1) / (- -1)) = (n : Int) - 1 := by
    rw [show (- -1 : Int) = 1 by decide, Int.ediv_one]
    omega
  simp only [h1, if_false, e]
  split <;> omega
theorem rv_applied {sl : Addr} {vl vu vs : Value} {n : Nat} {Q : Int × Int × Nat → Shared → Prop} (hs : s.heap.IsSliceOf sl vl vu vs) (pl : IsPart vl none) (pu : IsPart vu none) (ps : IsPart vs (some (-1)))
    (h : Q ((n : Int) - 1, -1, n) s) : wpAny (model prog w) A (Builtin.Slice.sliceApplied (.ref sl) (pure (n : Int))) Q E s := by
  obtain ⟨os, hos, hcs, hds⟩ := id hs
  unfold Builtin.Slice.sliceApplied Builtin.Slice.sliceFields
  refine wpAny_bind (wpAny_bind (wpAny_field hos hds (x := vl) rfl (wpAny_bind (wpAny_field hos hds (x := vu) rfl (wpAny_bind (wpAny_field hos hds (x := vs) rfl (wpAny_pure ?_)))))))
  refine wpAny_bind (HT.slicePart_ ps ?_)
  show wpAny _ _ (if ((-1 : Int) == 0) = true then _ else _) _ _ s
  rw [if_neg (by decide)]
  refine wpAny_bind (HT.slicePart_ pl (wpAny_bind (HT.slicePart_ pu (wpAny_bind (wpAny_pure ?_)))))
  show wpAny _ _ (match Builtin.Slice.sliceAdjust none none (-1) (n : Int) with | (lo, hi) => pure (lo, (-1 : Int), Builtin.Slice.slicePlaces lo hi (-1))) _ _ s
  rw [rv_adj n]
  show wpAny _ _ (pure ((n : Int) - 1, (-1 : Int), Builtin.Slice.slicePlaces ((n : Int) - 1) (-1) (-1))) _ _ s
  rw [rv_places]
  exact wpAny_pure h
theorem rv_pick (xs : Array Value) : ((List.range xs.size).filterMap fun (m : Nat) => xs[((xs.size : Int) - 1 + (m : Int) * (-1)).toNat]?).toArray = xs.toList.reverse.toArray := by
  congr 1
  have e : (List.range xs.size).filterMap (fun (m : Nat) => xs[((xs.size : Int) - 1 + (m : Int) * (-1)).toNat]?) = ((List.range xs.size).map fun k => xs.size - 1 - k).filterMap (xs[·]?) := by
    rw [List.filterMap_map]
    have fc : ∀ (l : List Nat) (f g : Nat → Option Value), (∀ m ∈ l, f m = g m) → l.filterMap f = l.filterMap g := by
      intro l f g h
      induction l with
      | nil => rfl
      | cons a l ih => rw [List.filterMap_cons, List.filterMap_cons, h a (by simp), ih fun m hm => h m (by simp [hm])]
    refine fc _ _ _ fun m hm => ?_
    have hm := List.mem_range.mp hm
    have : ((xs.size : Int) - 1 + (m : Int) * (-1)).toNat = xs.size - 1 - m := by omega
    simp only [this, Function.comp]
  rw [e, PySem.W.krv_range, List.filterMap_reverse, PySem.W.krv_all]
theorem getItem_tuple_rev {t sl : Addr} {items : Array Value} {vl vu vs : Value} {Q : Value → Shared → Prop} (ht : IsTup s.heap t items) (hs : s.heap.IsSliceOf sl vl vu vs) (pl : IsPart vl none) (pu : IsPart vu none) (ps : IsPart vs (some (-1)))
    (h : Q (.ref s.heap.objs.size) { s with heap := s.heap.push { cls := .type "tuple", data := .seq items.toList.reverse.toArray } })
    (hsz : items.size ≤ sizeLine) : wpAny (model prog w) A (getItem (.ref t) (.ref sl)) Q E s := by
  have htake : sizeOk (.seq items.toList.reverse.toArray) := by
    show items.toList.reverse.toArray.size ≤ sizeLine
    rw [List.size_toArray, List.length_reverse, Array.length_toList]
    exact hsz
  obtain ⟨os, hos, hcs, hds⟩ := id hs
  have hTs : s.TypeIs (.ref sl) "slice" := ⟨os, hos, hcs⟩
  unfold getItem
  try with_reducible refine wpAny_holding ?_
  first | refine wpAny_bind (wpAny_pure ?_) | skip
  refine wpAny_bind (wpAny_sequenceKey ht.typeIs (by decide) ?_)
  refine wpAny_bind (wpAny_callSpecial?_slot (name := Str.ofString "__getitem__") ht.typeIs PyProof.Rows.slot_tuple_getitem
    (wpAny_call_entry PyProof.Rows.slot_tuple_getitem ht.typeIs entry_tuple_getitem ?_ (args_tuple_getitem _ _)))
  show wpAny _ _ (Builtin.Tuple.tupleItemsOf (.ref t) >>= _) _ _ s
  refine wpAny_bind (tupleItemsOf_ ht ?_)
  refine wpAny_bind (wpAny_typeOf hTs ?_)
  rw [if_pos (by decide)]
  refine wpAny_bind (rv_applied hs pl pu ps ?_)
  have hno : ¬ (((((items.size : Int) - 1)) == 0 && (-1 : Int) == 1 && items.size == items.size) = true) := by
    intro q
    rw [Bool.and_eq_true, Bool.and_eq_true] at q
    exact absurd q.1.2 (by decide)
  show wpAny _ _ (if (((items.size : Int) - 1) == 0 && (-1 : Int) == 1 && items.size == items.size) = true then _ else _) _ _ s
  rw [if_neg hno, rv_pick]
  first
    | exact wpAny_bind (m := Builtin.Tuple.tupleExact _) (wpAny_newObj_type (wpAny_pure ⟨_, rfl, wpAny_pure h⟩) htake)
    | exact wpAny_bind (m := Builtin.Tuple.tupleExact _) (wpAny_newObj_type (wpAny_bind (wpAny_pure (wpAny_pure ⟨_, rfl, wpAny_pure h⟩))) htake)
    | exact wpAny_bind (wpAny_bind (m := Builtin.Tuple.tupleExact _) (wpAny_newObj_type (wpAny_pure (wpAny_pure ⟨_, rfl, wpAny_pure h⟩)) htake))
    | exact wpAny_bind (wpAny_bind (m := Builtin.Tuple.tupleExact _) (wpAny_newObj_type (wpAny_pure ⟨_, rfl, wpAny_pure h⟩) htake))
end
section
variable {X : Cx}
def tRevU (K : PySem.W.Frag) (te : TE) : TE := fun σ H Q => te σ H fun x H1 => (∃ a xs, x = .ref a ∧ SqL K H1 a xs ∧ ∀ p, H1 p = none → Q (.ref p) (upd H1 p (.lst xs.reverse))) ∨ (∃ a xs, x = .ref a ∧ SqT K H1 a xs ∧ ∀ p, H1 p = none → Q (.ref p) (upd H1 p (.tup xs.reverse)))
theorem pe_revU {e : Expr} {te : TE} {k : Nat} {p1 p2 p3 pos : Pos} (he : PE X e te) : PE X (.Subscript e (.Slice none none (some (.UnaryOp .USub (.Constant (.int 1) k p1) p2)) p3) pos) (tRevU X.K te) := by
  refine ⟨fun pins s σ H Q I h => ?_⟩
  refine Subscript_ (thn (he.run pins s σ H _ I h) fun v s1 ⟨x, H1, I1, r1, q1⟩ => ?_)
  have hst : PO X (some (.UnaryOp .USub (.Constant (.int 1) k p1) p2)) (tPart (tUn (rU fun i => .int (-i)) (tC (.int 1)))) := po_some (pe_un un_neg pe_int)
  refine wpAny_Slice (thn (po_none.run pins s1 σ H1 (fun o H2 => o = none ∧ H2 = H1) I1 ⟨rfl, rfl⟩) fun vl s2 ⟨l, H2, I2, pl, el, e2⟩ => ?_)
  subst el e2
  refine thn (po_none.run pins s2 σ H2 (fun o H3 => o = none ∧ H3 = H2) I2 ⟨rfl, rfl⟩) fun vu s3 ⟨u, H3, I3, pu, eu, e3⟩ => ?_
  subst eu e3
  refine thn (hst.run pins s3 σ H3 (fun o H4 => o = some (-1) ∧ H4 = H3) I3 ⟨1, rfl, -1, rfl, rfl, rfl⟩) fun vs s4 ⟨o, H4, I4, ps, eo, e4⟩ => ?_
  subst eo e4
  have I5 : Inv X pins σ H4 { s4 with heap := s4.heap.push { cls := .type "slice", data := .fields #[vl, vu, vs] } } := I4.kept (t' := s4.toks) fun b ob q => Heap.get?_push_of_some _ q
  rcases q1 with ⟨a, xs, ex, hx, q⟩ | ⟨a, xs, ex, hx, q⟩
  · subst ex
    cases r1
    obtain ⟨its, r, ht, hz⟩ := I5.list hx
    have hlen := r.length
    show wpAny (model X.prog X.w) X.A (subscriptTail e (.Slice none none (some (.UnaryOp .USub (.Constant (.int 1) k p1) p2)) p3) (.ref a) (.ref s4.heap.objs.size)) (EP X pins σ Q) X.xe { s4 with heap := s4.heap.push { cls := .type "slice", data := .fields #[vl, vu, vs] } }
    refine tail_any (ops := [.ref a, .ref s4.heap.objs.size]) ht.isList.typeIs (PySem.slot_list_getitem.lookup) ?_ (by with_unfolding_all rfl)
    refine wpAny_getItem_list_slice ht.isList (Heap.IsSliceOf.new _ vl vu vs) pl pu ps (by decide) ?_ (by rw [List.size_toArray]; omega)
    rw [PySem.W.krv_pick]
    refine ⟨.ref _, _, I5.laid (t' := s4.toks) (o := .lst xs.reverse) (fun b ob q => Heap.get?_push_of_some _ q) (Nat.le_refl _) ?_, rfl, q _ (I5.hok.fresh (Nat.le_refl _))⟩
    exact ⟨by rw [List.length_reverse]; exact hz, _, 0, r.reverse, Heap.get?_push_size _ rfl⟩
  · subst ex
    cases r1
    obtain ⟨its, r, ht, hz⟩ := I5.tuple hx
    have hlen := r.length
    show wpAny (model X.prog X.w) X.A (subscriptTail e (.Slice none none (some (.UnaryOp .USub (.Constant (.int 1) k p1) p2)) p3) (.ref a) (.ref s4.heap.objs.size)) (EP X pins σ Q) X.xe { s4 with heap := s4.heap.push { cls := .type "slice", data := .fields #[vl, vu, vs] } }
    refine tail_any (ops := [.ref a, .ref s4.heap.objs.size]) ht.typeIs (PyProof.Rows.slot_tuple_getitem.lookup) ?_ (by with_unfolding_all rfl)
    refine getItem_tuple_rev ht (Heap.IsSliceOf.new _ vl vu vs) pl pu ps ?_ (by rw [List.size_toArray]; omega)
    refine ⟨.ref _, _, I5.laid (t' := s4.toks) (o := .tup xs.reverse) (fun b ob q => Heap.get?_push_of_some _ q) (Nat.le_refl _) ?_, rfl, q _ (I5.hok.fresh (Nat.le_refl _))⟩
    exact ⟨by rw [List.length_reverse]; exact hz, _, r.reverse, IsTup.new _ _⟩
end
section
variable {X : Cx} {G : Gh} {W : WX} {e : Expr} {pos p2 : Pos}
def rvM (f : M D) : M D := bindM f fun d => match d with
  | .lst xs => pureM (.lst xs.reverse)
  | .tup xs => pureM (.tup xs.reverse)
  | _ => stuckM
theorem de_rev {f : M D} {k : Nat} {p1 p3 : Pos} (hm0 : G.m = ⟨X.K, X.mg, X.w⟩) (he : DE X G W e f) : DE X G W (.Subscript e (.Slice none none (some (.UnaryOp .USub (.Constant (.int 1) k p1) p2)) p3) pos) (rvM f) :=
  pe_imp (pe_fz (pe_revU he)) fun σ H Q ⟨ρ, k, q⟩ => ⟨ρ, k, q.bind.mono fun x ρ1 H1 _ s1 k1 q1 v r => by
    have eK : X.K = G.m.K := by rw [hm0]
    cases r with
    | @lst a vs xs qa ra =>
      refine .inl ⟨a, vs, rfl, by rw [eK]; exact qa.sq, fun p hp => .inr ⟨p, _, rfl, upd_same, trivial, fun o => ?_⟩⟩
      have eu : upd (upd H1 p (.lst vs.reverse)) p (.frz o (.lst vs.reverse)) = upd H1 p (.frz o (.lst vs.reverse)) := upd_upd
      rw [eu]
      have g := Grow.new (o := .frz o (.lst vs.reverse)) hp
      exact q1 _ g.stable (k1.grow g) _ (.lst (.inl ⟨o, upd_same⟩) (ra.reverse.st g.stable))
    | @tup a vs xs qa ra =>
      refine .inr ⟨a, vs, rfl, by rw [eK]; exact qa, fun p hp => .inl ?_⟩
      have g := Grow.new (o := .tup vs.reverse) hp
      exact q1 _ g.stable (k1.grow g) _ (.tup (SqT.of upd_same) (ra.reverse.st g.stable))
    | _ => exact q1.elim⟩
end
end DL
end
section
namespace DL
open PySem PySem.Spec L2 DLS
open PyProof.Rows hiding St
/-! ### a tuple whose last is a container of the def's own -/
/-- the arguments: data, the last a slot -/
def splitA : List Ag → Option (List D × Nat)
  | [.sl i] => some ([], i)
  | .d x :: r => (splitA r).map fun z => (x :: z.1, z.2)
  | _ => none
def tupT (i : Nat) (fa : M (List Ag)) : M D := bindM fa fun ags ρ => match splitA ags with
  | some z => if z.2 = i ∧ ags.length ≤ sizeLine then (match ρ[i]? with
    | some (.cell c) => .ok (.tup (z.1 ++ [ocD c])) (ρ.set i .no)
    | _ => .stuck) else .stuck
  | none => .stuck
abbrev TgxF := List D → OC → DL.Env → Option DL.Env
def asgX (n : Nat) (f : M D) (t : TgxF) : MS := bindM f fun d ρ => match splitT d with
  | some z => if z.1.length + 1 = n then (match t z.1 z.2 ρ with
    | some ρ' => .ok .nx ρ'
    | none => .stuck) else .stuck
  | none => .stuck
section
variable {X : Cx} {G : Gh} {W : WX} {e a b : Expr} {es : List Expr} {pos p : Pos} {rm : RM} {x : Str} {j k : Nat} {md : List Bool} {f : Fn} {fa : M (List Ag)}
/-! targets -/
end
end DL
end
section
namespace DL
open PySem PySem.Spec L2 PySem.SeqAt
open PyProof.Rows hiding St
/-! ### min of a list of alike data -/
section
variable {prog : Program} {w : World} {A : Around} {E : Value → Shared → Prop} {s : Shared}
theorem min_list_at {l : Addr} {vs : Array Value} {x : PyData} {xs : List PyData} {as : List Addr} {Q : Value → Shared → Prop} (hh : A.handled = none) (hl : s.heap.IsList l vs) (hr : ReadsAll s.heap vs.toList (x :: xs) as) (ha : PySem.W.AlikeAll (x :: xs)) (hu : A.units + 1 + PyData.depthAll (x :: xs) < cLine)
    (h : ∀ v h' tk, vs[argBest (fun i j => PySem.W.dataLt ((x :: xs).getD i .none) ((x :: xs).getD j .none)) xs.length]? = some v → (∀ b o, s.heap.get? b = some o → h'.get? b = some o) → Q v { s with heap := h', toks := tk }) :
    wpAny (model prog w) A (call (.builtin "min") [.ref l]) Q E s := by
  have hn : vs.size = xs.length + 1 := PySem.W.readsAll_len hr
  refine call_min_walkH (PySem.W.iter_listW (A := A.in1) hh hl fun s₂ e W st hfp hw hk => ?_)
  refine ⟨_, _, _, _, _, _, _, s.heap, _, rfl, W, st, hfp, by omega, hw, hk, PySem.W.cmpIn_lt (A := A.in1) hr ha (by show A.units + 1 + _ < _; exact hu), fun v s' hP m => ?_⟩
  obtain ⟨h', tk, rfl, hk'⟩ := PySem.W.moved_old e rfl m
  have e1 : vs.size - 1 = xs.length := by omega
  rw [e1] at hP
  exact h v h' tk hP hk'
end
def notNon : D → Bool
  | .non => false
  | _ => true
def ixMin (ds : List D) : Nat := argBest (fun i j => dLt (ds.getD i .non) (ds.getD j .non)) (ds.length - 1)
def minA : List D → Option D
  | [.lst ds] => if (ds.all okD && ((ds.all fun d => ds.all fun e => PySem.W.alike (toPy d) (toPy e)) && ds.all notNon)) = true then ds[ixMin ds]? else none
  | _ => none
def minAD (ds : List D) : Option D := (minLD ds).or (minA ds)
def rMinA (m : Md) : List V → Hp → VK → Prop := fun vs H Q => ∃ (a : Addr) (xs : List V) (ds : List D) (d : D), vs = [V.ref a] ∧ SqL m.K H a xs ∧ RepL m H xs ds ∧ minA [.lst ds] = some d ∧ ∀ v, Rep m H v d → Q v H
theorem vals_at {xs : List V} {its : List Value} (r : Vals xs its) : ∀ (i : Nat) (u : Value), its[i]? = some u → ∃ v, xs[i]? = some v ∧ RelV v u := by
  induction r with
  | nil => intro i u h; simp at h
  | cons a b ih =>
    intro i u h
    cases i with
    | zero => simp at h; subst h; exact ⟨_, rfl, a⟩
    | succ i => exact ih i u (by simpa using h)
theorem repL_at {m : Md} {H : Hp} : ∀ {vs : List V} {ds : List D}, RepL m H vs ds → ∀ (i : Nat) (v : V) (d : D), vs[i]? = some v → ds[i]? = some d → Rep m H v d
  | _, [], r, i, v, d, _, h => by simp at h
  | _, d :: ds, r, i, v, d', h1, h2 => by
    cases r with
    | cons a b =>
      cases i with
      | zero => simp at h1 h2; subst h1; subst h2; exact a
      | succ i => exact repL_at b i v d' (by simpa using h1) (by simpa using h2)
theorem toPy_getD0 (ds : List D) (i : Nat) : (ds.map toPy).getD i .none = toPy (ds.getD i .non) := by
  rw [List.getD_eq_getElem?_getD, List.getD_eq_getElem?_getD, List.getElem?_map]
  cases ds[i]? <;> rfl
theorem toPyL_map0 : ∀ ds : List D, toPyL ds = ds.map toPy
  | [] => rfl
  | d :: ds => by rw [toPyL, toPyL_map0 ds]; rfl
theorem cr_minA {X : Cx} {m : Md} (hc : X.calm = true) (hm : m.K = X.K) (hv : X.A.units + 130 < cLine) : CallR X (.builtin "min") (rMinA m) := by
  intro pins s σ H vs us Q I r h
  obtain ⟨a, xs, ds, d, rfl, hs, rx, e, q⟩ := h
  rw [hm] at hs
  obtain ⟨its, rv, hl, hz⟩ := I.list hs
  rw [Vals.ref1 r]
  unfold minA at e
  dsimp only at e
  by_cases c : (ds.all okD && ((ds.all fun d => ds.all fun e => PySem.W.alike (toPy d) (toPy e)) && ds.all notNon)) = true
  case neg => rw [if_neg c] at e; cases e
  rw [if_pos c] at e
  rw [Bool.and_eq_true, Bool.and_eq_true] at c
  obtain ⟨c1, c2, c3⟩ := c
  have ok1 := List.all_eq_true.mp c1
  cases ds with
  | nil => simp at e
  | cons d0 dr =>
    have cl : PyData.canLayAll0 (toPyL (d0 :: dr)) = true := by
      have : ∀ L : List D, (∀ d ∈ L, okD d = true) → PyData.canLayAll0 (toPyL L) = true := fun L => by
        induction L with
        | nil => intro _; rfl
        | cons x L ih =>
          intro h
          show ((toPy x).canLay0 && PyData.canLayAll0 (toPyL L)) = true
          rw [SeqAt.canLay_of_shaped (h x List.mem_cons_self), ih fun d hd => h d (List.mem_cons_of_mem _ hd)]
          rfl
      exact this _ ok1
    have dp := RepL.dp rx cl
    rw [hm] at dp
    obtain ⟨as, ra⟩ := Dp.readsAll I _ _ its dp rv
    have dep : PyData.depthAll (toPyL (d0 :: dr)) ≤ 64 := by
      have : ∀ L : List D, (∀ d ∈ L, okD d = true) → PyData.depthAll (toPyL L) ≤ 64 := fun L => by
        induction L with
        | nil => intro _; simp [toPyL, PyData.depthAll]
        | cons x L ih =>
          intro h
          have a := SeqAt.depth_of_shaped (h x List.mem_cons_self)
          have b := ih fun d hd => h d (List.mem_cons_of_mem _ hd)
          simp only [toPyL, PyData.depthAll]
          omega
      exact this _ ok1
    rw [toPyL_map0] at ra dep
    refine min_list_at (I.ok.hd hc) hl.isList (by simpa using ra) ?_ ?_ fun v h' tk hv' hk => ?_
    · refine ⟨fun x hx y hy => ?_, fun x hx => ?_⟩
      · obtain ⟨x', hx', rfl⟩ := List.mem_map.mp (show x ∈ (d0 :: dr).map toPy from hx)
        obtain ⟨y', hy', rfl⟩ := List.mem_map.mp (show y ∈ (d0 :: dr).map toPy from hy)
        exact List.all_eq_true.mp (List.all_eq_true.mp c2 x' hx') y' hy'
      · obtain ⟨x', hx', rfl⟩ := List.mem_map.mp (show x ∈ (d0 :: dr).map toPy from hx)
        have := List.all_eq_true.mp c3 x' hx'
        cases x' <;> simp [notNon, toPy] at this ⊢
    · have : PyData.depthAll (toPy d0 :: dr.map toPy) ≤ 64 := dep
      omega
    · have ei : argBest (fun i j => PySem.W.dataLt ((toPy d0 :: dr.map toPy).getD i .none) ((toPy d0 :: dr.map toPy).getD j .none)) (dr.map toPy).length = ixMin (d0 :: dr) := by
        unfold ixMin
        rw [List.length_map]
        have ef : (fun i j => PySem.W.dataLt ((toPy d0 :: dr.map toPy).getD i .none) ((toPy d0 :: dr.map toPy).getD j .none)) = fun i j => dLt ((d0 :: dr).getD i .non) ((d0 :: dr).getD j .non) := by
          funext i j
          have a := toPy_getD0 (d0 :: dr) i
          have b := toPy_getD0 (d0 :: dr) j
          rw [List.map_cons] at a b
          rw [a, b]
          rfl
        rw [ef]
        rfl
      rw [ei] at hv'
      obtain ⟨x, x1, x2⟩ := vals_at rv _ v (by simpa using hv')
      exact ⟨x, H, I.kept hk, x2, q x (repL_at rx _ x d x1 e)⟩
theorem cd_minAD {m : Md} : CallD m (fun vs H Q => rMin m.K vs H Q ∨ rMinA m vs H Q) minAD := fun vs ds d H Q r e k => by
  unfold minAD at e
  cases q : minLD ds with
  | some z =>
    rw [q] at e
    cases e
    exact .inl (cd_minL vs ds _ H Q r q k)
  | none =>
    rw [q] at e
    have e : minA ds = some d := e
    refine .inr ?_
    obtain ⟨L, rfl⟩ : ∃ L, ds = [.lst L] := by
      unfold minA at e
      split at e
      · exact ⟨_, rfl⟩
      · cases e
    obtain ⟨v, rfl, rv⟩ := one_of r
    cases rv with
    | @lst a xs _ qa ra => exact ⟨a, xs, L, d, rfl, qa.sq, ra, e, fun v rr => k v H Grow.rfl rr⟩
end DL
end
section
/-! list(range(a, b, -1)) -/
namespace DL
open PySem PySem.Spec L2
open PyProof.Rows hiding St
section
variable {X : Cx} {G : Gh} {W : WX} {a b c : Expr} {p p2 pos pos2 : PySem.Pos} {f : M (List D)}
end
end DL
end
section
namespace DL
end DL
end
section
/-! texts: a text in a text, a whole number of a text; a module's list of texts -/
namespace DL
open PySem PySem.Spec L2
open PyProof.Rows hiding St
/-! ### a text in a text -/
/-! ### int(text) -/
def intTD : List D → Option D
  | [.str z] => if z.length ≤ 640 then (PySem.intText? z).map fun n => .int n else none
  | _ => none
/-! ### a module's list of texts -/
section
variable {X : Cx} {G : Gh} {W : WX} {pos : Pos}
end
end DL
end
section
/-! sorted(a tuple) -/
namespace DL
open PySem PySem.Spec L2
open PyProof.Rows hiding St
section
variable {prog : Program} {w : World} {A : Around} {E : Value → Shared → Prop} {s : Shared}
end
section
variable {m : Md}
end
end DL
end
section
/-! dicts whose keys are nested: walked, measured, sorted, get, update -/
namespace DL
open PySem PySem.Spec L2 DLS
open PyProof.Rows hiding St
/-! ### walked -/
def ItN (w : World) (d : Addr) (o : Obj) (kvs : List NEnt) : It where
  go := fun i H => H d = some (.frz o (NdO w d kvs)) ∧ i < kvs.length
  yld := fun i H x H' => H' = H ∧ ∃ p, kvs[i]? = some p ∧ x = .ref p.2.1
  stop := fun i H => H d = some (.frz o (NdO w d kvs)) ∧ kvs.length ≤ i
theorem raw_rows {kvs : List NEnt} {us : List Value} {es : Array DictEntry} {w : World} (hv : Vals (kvs.map (·.2.2)) us) (h4 : es.toList = (kvs.zip us).map (fun p => entN w p.1.1 p.1.2.1 p.2)) : es.size = kvs.length ∧ ∀ (i : Nat) (p : NEnt), kvs[i]? = some p → ∃ en : DictEntry, es[i]? = some en ∧ en.key = Value.ref p.2.1 := by
  have hl : kvs.length = us.length := by have := hv.length; simpa using this
  refine ⟨by rw [← Array.length_toList, h4, List.length_map, List.length_zip]; omega, fun i p hp => ?_⟩
  have hi : i < kvs.length := (List.getElem?_eq_some_iff.mp hp).1
  have hu : us[i]? = some us[i] := List.getElem?_eq_getElem (by omega)
  have hz : (kvs.zip us)[i]? = some (p, us[i]) := List.getElem?_zip_eq_some.mpr ⟨hp, hu⟩
  refine ⟨entN w p.1 p.2.1 us[i], ?_, rfl⟩
  rw [← Array.getElem?_toList, h4, List.getElem?_map, hz]
  rfl
theorem frzN {X : Cx} {pins : List (Addr × Obj)} {σ : L2.St} {H : Hp} {s : Shared} {w : World} {d : Addr} {o : Obj} {kvs : List NEnt} (I : L2.Inv X pins σ H s) (h : H d = some (.frz o (NdO w d kvs))) :
    (d == sysModules) = false ∧ s.heap.get? d = some o ∧ o.ExactDict ∧ ∃ es ep, o.data = .dict es ep ∧ es.size = kvs.length ∧ ∀ (i : Nat) (p : NEnt), kvs[i]? = some p → ∃ en : DictEntry, es[i]? = some en ∧ en.key = Value.ref p.2.1 := by
  obtain ⟨e1, ⟨z, hd, us, hv, ob, es, ep, h1, h2, h3, h4, h5⟩, _⟩ := (show ObjOk X.prog X.w H s.heap d (.frz o (NdO w d kvs)) from I.hok _ _ h)
  rw [e1] at h1
  cases h1
  obtain ⟨g1, g2⟩ := raw_rows hv h4
  exact ⟨hd, e1, h2, es, ep, h3, g1, g2⟩
theorem turn_keysN {P : Program} {w : World} {K : PySem.W.Frag} {tg : Expr} {d : Addr} {o : Obj} {es : Array DictEntry} {ep : Nat} {kvs : List NEnt} {w' : World} (it : Addr) (hod : o.data = .dict es ep) : Turn P w K tg (ItN w' d o kvs) [it] it fun i h => h.IsKeyIter it d i kvs.length ep where
  mem := by simp
  obj := fun i h st b hb => by
    simp only [List.mem_singleton] at hb; subst hb
    obtain ⟨oi, e, c, dd⟩ := st
    exact ⟨oi, e, fun v z => by rw [dd] at z; cases z⟩
  keep := fun i h h' st k => Heap.IsKeyIter.at st fun oi e => k it (by simp) oi e
  item := fun X hP hw hK hc i pins s σ H E I hf st hg => by
    subst hP; subst hw
    obtain ⟨hd, hi⟩ := hg
    obtain ⟨f0, f1, f2, f3, f4, f5⟩ := hf it (by simp)
    obtain ⟨hs, hgd, hx, es', ep', hdt, hsz, ent⟩ := frzN I hd
    obtain ⟨rfl, rfl⟩ := dict_ep hod hdt
    obtain ⟨en, hen, hkey⟩ := ent i kvs[i] (List.getElem?_eq_getElem hi)
    refine next_key_item st hgd hdt hsz hen fun h' st' sb => ?_
    have I1 := L2.Inv.turned (t' := s.toks) I (fun b ob hb e => (sb.2 b hb).trans e) f0 f1 f3 f4 f5
    have st2 := st'
    obtain ⟨oi, e, c, dd⟩ := st'
    exact ⟨en.key, rfl, go_of e c dd (by decide) ⟨.ref _, H, I1, hkey, ⟨rfl, _, List.getElem?_eq_getElem hi, rfl⟩, st2, fun b hb => (hf b hb).1⟩⟩
  done := fun X hP hw hK hc i pins s σ H E I hf st hg => by
    subst hP; subst hw
    obtain ⟨hd, hi⟩ := hg
    obtain ⟨f0, f1, f2, f3, f4, f5⟩ := hf it (by simp)
    obtain ⟨hs, hgd, hx, es', ep', hdt, hsz, ent⟩ := frzN I hd
    obtain ⟨rfl, rfl⟩ := dict_ep hod hdt
    exact next_key_end (I.ok.hd hc) st hgd hdt hsz hi fun h' eb => ⟨rfl, L2.Inv.turned I (fun b ob hb e => eb b ob hb e) f0 f1 f3 f4 f5⟩
  self := fun A i s Q E st h =>
    wpAny_pyIter_slot (Heap.IsKeyIter.typeIs st) F.slot_dict_keyiterator_iter
      (wpAny_call_entry F.slot_dict_keyiterator_iter (Heap.IsKeyIter.typeIs st) F.entry_dict_keyiterator_iter
        (wpAny_pure ⟨Value.ref it, rfl, "dict_keyiterator", Value.builtin "dict_keyiterator.__next__", Heap.IsKeyIter.typeIs st, F.slot_dict_keyiterator_next.lookup, h⟩)
        (F.args_dict_keyiterator_iter_1 (Value.ref it)))
def iKeysN (w : World) (td : TE) : TI := fun σ H R => td σ H fun x H1 => ∃ d o kvs, x = .ref d ∧ H1 d = some (.frz o (NdO w d kvs)) ∧ R (ItN w d o kvs) H1
theorem pi_keysN {X : Cx} {tg e : Expr} {td : TE} {w : World} (he : PE X e td) : PI X tg e (iKeysN w td) := ⟨fun pins s σ H R I h => thn (he.run pins s σ H _ I h) fun u s1 ⟨x, H1, I1, rx, d, o, kvs, ex, hd, q⟩ => by
  subst ex
  obtain rfl : u = Value.ref d := rx
  obtain ⟨hs, hgd, hx, es, ep, hdt, hsz, ent⟩ := frzN I1 hd
  exact L2.iter_keys hs hgd hx hdt (pi_one I1 { cls := .type "dict_keyiterator", data := .fields #[.ref d, .int 0 0, .int (es.size : Int) 0, .int (ep : Int) 0] } (turn_keysN _ hdt) ⟨_, Heap.get?_push_size _ rfl, rfl, by rw [hsz]; rfl⟩ q)⟩
def itemsN : D → Option (List D)
  | .dic ks _ => if ks.all isNK = true then some ks else none
  | _ => none
def itemsX (d : D) : Option (List D) := (itemsG d).or (itemsN d)
def itemsXM (f : M D) : M (List D) := bindM f fun d => liftM (itemsX d)
theorem repl_ix {m : Md} {H : Hp} : ∀ {vs : List V} {ds : List D}, RepL m H vs ds → ∀ {i : Nat} {v : V}, vs[i]? = some v → ∃ d, ds[i]? = some d ∧ Rep m H v d
  | _, _, .cons a b, 0, v, h => by simp at h; subst h; exact ⟨_, rfl, a⟩
  | _, _, .cons a b, i + 1, v, h => by
    obtain ⟨d, h1, h2⟩ := repl_ix b (i := i) (v := v) (by simpa using h)
    exact ⟨d, by simpa using h1, h2⟩
theorem iter_keysN {m : Md} {H : Hp} {a : Addr} {o : Obj} {kvs : List NEnt} {ks : List D} (h : H a = some (.frz o (NdO m.w a kvs))) (r : RepL m H (kvs.map fun p => V.ref p.2.1) ks) : IterOk m H (ItN m.w a o kvs) ks where
  stop := fun i H' s hi => ⟨s _ _ h trivial, by rw [← r.len] at hi; simpa using hi⟩
  go := fun i H' s hi => ⟨s _ _ h trivial, by rw [← r.len] at hi; simpa using hi⟩
  yld := fun i H1 v H2 s hi q => by
    obtain ⟨e, p, h1, h2⟩ := q
    subst h2
    obtain ⟨d, g1, g2⟩ := repl_ix r (i := i) (v := .ref p.2.1) (by rw [List.getElem?_map, h1]; rfl)
    exact ⟨e, d, g1, g2.st s⟩
section
variable {X : Cx} {G : Gh} {W : WX}
theorem di_genX {tg l : Expr} {f : M D} (hK : G.m = ⟨X.K, X.mg, X.w⟩) (h : DE X G W l f) : DI X G W tg l (itemsXM f) := ⟨fun pins s σ H R I ⟨ρ, k, q⟩ => by
  cases e : f ρ with
  | ok d ρ1 =>
    cases g : itemsG d with
    | some xs =>
      refine (di_gen (tg := tg) hK h).run pins s σ H R I ⟨ρ, k, ?_⟩
      have z : itemsGM f ρ = .ok xs ρ1 := by unfold itemsGM bindM; rw [e]; simp only [g]; rfl
      have z2 : itemsXM f ρ = .ok xs ρ1 := by unfold itemsXM bindM itemsX; rw [e]; simp only [g]; rfl
      rw [z2] at q; rw [z]; exact q
    | none =>
      have stuck : itemsN d = none → False := fun hn => by
        have z2 : itemsXM f ρ = .stuck := by unfold itemsXM bindM itemsX; rw [e]; simp only [g, hn]; rfl
        rw [z2] at q; exact q.elim
      cases d with
      | dic ks vs =>
        by_cases c : ks.all isNK = true
        · have hn : itemsN (.dic ks vs) = some ks := by show (if ks.all isNK = true then some ks else none) = some ks; rw [if_pos c]
          have z2 : itemsXM f ρ = .ok ks ρ1 := by unfold itemsXM bindM itemsX; rw [e]; simp only [g, hn]; rfl
          rw [z2] at q
          refine (pi_keysN (tg := tg) (w := G.m.w) h).run pins s σ H R I ⟨ρ, k, ?_⟩
          rw [e]
          intro H1 s1 k1 v r
          cases r with
          | dicN q1 n e1 r1 r2 => exact ⟨_, _, _, rfl, q1, q H1 s1 k1 _ (iter_keysN q1 r1)⟩
          | @dicK a o kvs _ q1 rl =>
            cases kvs with
            | nil => cases g
            | cons p l =>
              rw [List.map_cons, List.all_cons, Bool.and_eq_true] at c
              obtain ⟨k0, v0⟩ := p
              cases k0 <;> exact absurd c.1 (by simp [keyD, isNK])
        · exact (stuck (by show (if ks.all isNK = true then some ks else none) = none; rw [if_neg c])).elim
      | _ => exact (stuck rfl).elim
  | exc c ρ1 =>
    refine (di_gen (tg := tg) hK h).run pins s σ H R I ⟨ρ, k, ?_⟩
    have z : itemsGM f ρ = .exc c ρ1 := by unfold itemsGM bindM; rw [e]
    have z2 : itemsXM f ρ = .exc c ρ1 := by unfold itemsXM bindM; rw [e]
    rw [z2] at q; rw [z]; exact q
  | stuck =>
    have z : itemsXM f ρ = .stuck := by unfold itemsXM bindM; rw [e]
    rw [z] at q; exact q.elim⟩
end
/-! ### len(d) -/
def rLenN (m : Md) : List V → Hp → VK → Prop := fun xs H Q => ∃ a kvs ks, xs = [V.ref a] ∧ Nd m H a kvs ks ∧ Q (.int kvs.length) H
theorem call_lenN {X : Cx} {m : Md} (hm : m = ⟨X.K, X.mg, X.w⟩) : CallR X (.builtin "len") (rLenN m) := by
  intro pins s σ H xs us Q I r h
  obtain ⟨a, kvs, ks, rfl, n, q⟩ := h
  obtain ⟨u, rfl, ru⟩ := vals1 r
  obtain rfl : u = Value.ref a := ru
  obtain ⟨us, h1, h2, h3, h4⟩ := n.dict I (by rw [hm]) (by rw [hm])
  have hl : kvs.length = us.length := by have := h1.length; simpa using this
  have hr : (rowsN kvs us).length = kvs.length := by unfold rowsN; rw [List.length_map, List.length_zip]; omega
  have hk : s.heap.DictKeyed (nestedKind X.prog X.w) a (pairsH (rowsN kvs us)) := ⟨_, h4, rfl⟩
  have hp : (pairsH (rowsN kvs us)).length = kvs.length := by rw [pairsH_length, hr]
  rw [sizeLine_eq] at h2
  refine PyProof.Rows.call_len_slot (n := (kvs.length : Int)) h4.typeIs F.slot_dict_len (fun Q' hq => len_keyed h3 hk (by rw [hp]; exact hq)) (by omega) (by omega) ?_
  exact ⟨.int _, H, I.tok _, ⟨_, rfl⟩, q⟩
def lenN : List D → Option D
  | [.dic ks _] => if ks.all isNK = true then some (.int ks.length) else none
  | _ => none
theorem cd_lenN {m : Md} : CallD m (rLenN m) lenN := fun vs ds d H Q r e k => by
  unfold lenN at e
  split at e
  · split at e
    · rename_i c
      cases e
      obtain ⟨v, rfl, rv⟩ := one_of r
      obtain ⟨a, kvs, rfl, n, _, _⟩ := nd_frz rv c
      refine ⟨a, kvs, _, rfl, n, ?_⟩
      have e2 := n.ks_
      rw [e2, List.length_map] at k
      exact k _ H Grow.rfl (.int _)
    · cases e
  · cases e
def lenX (ds : List D) : Option D := (lenG ds).or (lenN ds)
/-! ### methods -/
section
variable {m : Md} {X : Cx}
def tBN (m : Md) (r : V → List V → Hp → VK → Prop) (to : TE) (t : TA) : TE := fun σ H Q => to σ H fun x H1 => (∃ a kvs ks, x = V.ref a ∧ Nd m H1 a kvs ks) ∧ t σ H1 fun xs H2 => r x xs H2 Q
theorem Nd.plain {pins : List (Addr × Obj)} {σ : L2.St} {H : Hp} {s : Shared} {a : Addr} {kvs : List NEnt} {ks : List D} (n : Nd m H a kvs ks) (I : L2.Inv X pins σ H s) (hm : m = ⟨X.K, X.mg, X.w⟩) : s.TypeIs (.ref a) "dict" ∧ ∀ b, Value.ref a = Value.ref b → ∃ ob, s.heap.get? b = some ob ∧ ob.dict = none := by
  obtain ⟨us, h1, h2, h3, h4⟩ := n.dict I (by rw [hm]) (by rw [hm])
  refine ⟨h4.typeIs, fun b e => ?_⟩
  cases e
  obtain ⟨o, es, ep, e1, e2, _⟩ := h4
  exact ⟨o, e1, e2.2.1⟩
theorem pe_bmN {o e : Expr} {es : List Expr} {to : TE} {t : TA} {name : Str} {apos cpos : PySem.Pos} {id : String} {r : V → List V → Hp → VK → Prop} (hm0 : m = ⟨X.K, X.mg, X.w⟩) (slot : Slot "dict" name id) (hty : typeOf (.builtin id) = pure (.type "method_descriptor")) (hm : MtR X id r) (ho : PE X o to) (ha : PA X (e :: es) t)
    (hbase : attributeBase o name X.env (eval o X.env) = eval o X.env)
    (hfew : ((backTo cpos (starEach (e :: es) X.env)).all (fun x => !x.1) && (backToKw cpos (keywordEach [] X.env)).all (fun x => x.1.isSome)
      && decide ((e :: es).length + ([] : List Keyword).length + (if ([] : List Keyword).isEmpty then 0 else 1) < 30)) = true)
    (hline : (apos.endLine == cpos.line) = true) (hs : starEach (e :: es) X.env = (false, eval e X.env) :: starEach es X.env) (hplain : (backTo cpos (starEach es X.env)).any (·.1) = false) :
    PE X (.Call (.Attribute o name apos) (e :: es) [] cpos) (tBN m r to t) := ⟨fun pins s σ H Q I h =>
  wpAny_Call_method_late hbase hfew hline rfl (thn (ho.run pins s σ H _ I h) fun v s1 ⟨x, H1, I1, r1, ⟨a, kvs, ks, ex, n⟩, q1⟩ => by
    subst ex
    obtain rfl : v = Value.ref a := r1
    obtain ⟨h1, h2⟩ := n.plain I1 hm0
    refine ⟨"dict", id, F.plainAttrs_dict, slot, hty, h1, h2, ?_⟩
    have hA := ha.run cpos pins s1 σ H1 (fun xs H2 => r (.ref a) xs H2 Q) I1 q1
    rw [hs] at hA ⊢
    refine Calls.callWith_builtin ((Bool.false_or _).trans hplain) (Calls.evalArgs_plain (thn hA fun us s2 ⟨vs, H2, I2, r2, q2⟩ => ?_))
    exact hm pins s2 σ H2 (.ref a) vs (.ref a) us Q I2 rfl r2 q2)⟩
def rGetN (m : Md) : V → List V → Hp → VK → Prop := fun x vs H Q => ∃ a kvs ks ds y z d k, x = .ref a ∧ vs = [y, z] ∧ Nd m H a kvs ks ∧ RepL m H (kvs.map (·.2.2)) ds ∧ NdK m H y k ∧ keyX d = some k ∧ ((∃ e, getN d ks ds = some e ∧ ∀ v, Rep m H v e → Q v H) ∨ (getN d ks ds = none ∧ Q z H))
theorem vals2 {a b : V} {us : List Value} (r : Vals [a, b] us) : ∃ u v, us = [u, v] ∧ RelV a u ∧ RelV b v := by
  cases r with
  | cons h t =>
    cases t with
    | cons h2 t2 => cases t2; exact ⟨_, _, rfl, h, h2⟩
theorem mt_getN (hm : m = ⟨X.K, X.mg, X.w⟩) (hv : X.A.units + 130 < cLine) : MtR X "dict.get" (rGetN m) := by
  intro pins s σ H x xs v us Q I rx rxs ⟨a, kvs, ks, ds, y, z, d, k, ex, exs, n, r, ⟨b, d', ey, rb, kd, kp⟩, hk, q⟩
  subst ex exs ey
  obtain rfl : v = Value.ref a := rx
  obtain ⟨u1, u2, rfl, r1, r2⟩ := vals2 rxs
  obtain rfl : u1 = Value.ref b := r1
  obtain ⟨us, h1, _, h3, h4⟩ := n.dict I (by rw [hm]) (by rw [hm])
  refine getOr_keyed (knd := nestedKind X.prog X.w) (show X.A.units + 1 + 8 < cLine by omega) ⟨keyX_is I (by rw [hm]) rb kd rfl, kp⟩ h3 ⟨_, h4, rfl⟩ ?_
  rw [valueAt_pairsH]
  obtain ⟨i1, i2⟩ := at_rows (kvs := kvs) hk h1 r
  rw [n.ks_] at q
  rcases q with ⟨e, g, q⟩ | ⟨g, q⟩
  · obtain ⟨b', v', u', g1, g2, g3⟩ := i1 e g
    rw [g1]
    exact ⟨v', H, I.tok _, g2, q v' g3⟩
  · rw [i2 g]
    exact ⟨z, H, I.tok _, r2, q⟩
/-! update -/
def putAllE (kvs es : List NEnt) : List NEnt := es.foldl (fun acc p => putE acc p.1 p.2.1 p.2.2) kvs
def newO (w : World) (a : Addr) (kvs : List NEnt) : HO := if kvs = [] then .dK [] else NdO w a kvs
def rUpdN (m : Md) : V → List V → Hp → VK → Prop := fun x vs H Q => ∃ a kvs ks b les ls, x = .ref a ∧ vs = [V.ref b] ∧ a ≠ b ∧ (H a = some (NdO m.w a kvs) ∨ kvs = [] ∧ H a = some (.dK [])) ∧ Nd m H a kvs ks ∧ Nd m H b les ls ∧ (kvs ≠ [] ∨ les = []) ∧ kvs.length + les.length ≤ sizeLine ∧ Q .non (upd H a (newO m.w a (putAllE kvs les)))
theorem putAll_len : ∀ (es kvs : List NEnt), (putAllE kvs es).length ≤ kvs.length + es.length
  | [], kvs => Nat.le_refl _
  | p :: es, kvs => by
    show (putAllE (putE kvs p.1 p.2.1 p.2.2) es).length ≤ _
    have := putAll_len es (putE kvs p.1 p.2.1 p.2.2)
    have := putE_len kvs p.1 p.2.1 p.2.2
    rw [List.length_cons]; omega
theorem stored_all : ∀ {les : List NEnt} {ws : List Value} {kvs : List NEnt} {us : List Value}, Vals (les.map (·.2.2)) ws → Vals (kvs.map (·.2.2)) us → ∃ us', Vals ((putAllE kvs les).map (·.2.2)) us' ∧ storedAllH (rowsN kvs us) (rowsN les ws) = rowsN (putAllE kvs les) us'
  | [], ws, kvs, us, h1, h2 => by cases h1; exact ⟨us, h2, rfl⟩
  | p :: les, ws, kvs, us, h1, h2 => by
    cases h1 with
    | cons a b =>
      obtain ⟨us1, g1, g2⟩ := stored_rows (k := p.1) (b := p.2.1) (v := p.2.2) a h2
      obtain ⟨us2, k1, k2⟩ := stored_all b g1
      refine ⟨us2, k1, ?_⟩
      refine Eq.trans ?_ k2
      rw [← g2]
      rfl
theorem mt_updN (hm : m = ⟨X.K, X.mg, X.w⟩) (hv : X.A.units + 130 < cLine) : MtR X "dict.update" (rUpdN m) := by
  intro pins s σ H x xs v us Q I rx rxs ⟨a, kvs, ks, b, les, ls, ex, exs, ne, ob, n, n2, hne, hsz, q⟩
  subst ex exs
  obtain rfl : v = Value.ref a := rx
  obtain ⟨u, rfl, ru⟩ := vals1 rxs
  obtain rfl : u = Value.ref b := ru
  obtain ⟨us, h1, h2, h3, h4⟩ := n.dict I (by rw [hm]) (by rw [hm])
  obtain ⟨ws, w1, w2, w3, w4⟩ := n2.dict I (by rw [hm]) (by rw [hm])
  have hl : kvs.length = us.length := by have := h1.length; simpa using this
  have hl2 : les.length = ws.length := by have := w1.length; simpa using this
  have e1 : (rowsN kvs us).length = kvs.length := by unfold rowsN; rw [List.length_map, List.length_zip]; omega
  have e2 : (rowsN les ws).length = les.length := by unfold rowsN; rw [List.length_map, List.length_zip]; omega
  refine call_update_dictH (knd := nestedKind X.prog X.w) (show X.A.units + 1 + 8 < cLine by omega) ne w3 h4 w4 ?_ (by rw [e1, e2]; exact hsz) fun h' hd ho hs => ?_
  · rcases hne with z | z
    · exact .inl fun e => z (List.eq_nil_of_length_eq_zero (by rw [← e1, e]; rfl))
    · have : rowsN les ws = [] := List.eq_nil_of_length_eq_zero (by rw [e2, z]; rfl)
      rw [this]
      exact .inr ⟨fun x hx => absurd hx List.not_mem_nil, List.nodup_nil⟩
  obtain ⟨us', g1, g2⟩ := stored_all w1 h1
  rw [g2] at hd
  obtain ⟨o', es, ep, p1, p2, p3, p4, p5, p6⟩ := hd
  have mu : Mut (H a) := by rcases ob with z | ⟨_, z⟩ <;> (rw [z]; trivial)
  have hl' : (putAllE kvs les).length = us'.length := by have := g1.length; simpa using this
  have hw : m.w = X.w := by rw [hm]
  unfold newO at q
  by_cases z : putAllE kvs les = []
  · rw [if_pos z] at q
    rw [z] at p4
    have es0 : es = #[] := by
      apply Array.ext'
      rw [p4]; rfl
    refine ⟨.non, _, d_write (ob := .dK []) I mu hs ⟨o', p1⟩ ⟨Nat.zero_le _, h3, [], .nil, ?_⟩, rfl, q⟩
    exact ⟨o', es, ep, p1, p2, p3, by rw [es0]; intro e he; simp at he, by rw [es0]; exact .nil, List.nodup_nil⟩
  · rw [if_neg z] at q
    have nod : ((putAllE kvs les).map (·.1)).Nodup := by
      have : (rowsN (putAllE kvs les) us').map (·.1) = (putAllE kvs les).map (·.1) := by
        unfold rowsN
        rw [List.map_map]
        have e : ((fun x : NestedKey × Addr × Value => x.1) ∘ fun p : NEnt × Value => (p.1.1, p.1.2.1, p.2)) = (fun p : NEnt => p.1) ∘ Prod.fst := rfl
        rw [e, ← List.map_map, List.map_fst_zip (by omega)]
      rw [← this]; exact p6
    have phi : ∀ h2 : Heap, (∀ o, h'.get? a = some o → h2.get? a = some o) → NdH m.w a (putAllE kvs les) h2 := fun h2 kp2 =>
      ⟨by have := putAll_len les kvs; omega, h3, us', g1, o', es, ep, kp2 o' p1, p2, p3, by rw [p4, rowsN, List.map_map, hw]; rfl, nod⟩
    exact ⟨.non, _, d_write (ob := NdO m.w a (putAllE kvs les)) I mu hs ⟨o', p1⟩ ⟨phi h' fun _ z => z, ⟨o', p1⟩, fun h1 h2 ⟨z, hd, us2, w1, o2, es2, ep2, w2, w3⟩ kp2 => ⟨z, hd, us2, w1, o2, es2, ep2, kp2 o2 w2, w3⟩⟩, rfl, q⟩
end
end DL
end
section
namespace DL
open PySem PySem.Spec L2 DLS
open PyProof.Rows hiding St
/-! ### d.get(k, x), d.update(e) -/
def isDic : D → Bool
  | .dic ks _ => ks.all isNK
  | _ => false
def isDicC : OC → Bool
  | .k ks _ => ks.all isNK
  | _ => false
def getX (ks vs : List D) (as : List D) : Option D := match as with
  | [k, z] => if (isNK k && ks.all isNK) = true then some ((getN k ks vs).getD z) else none
  | _ => none
def getDF (d : D) (as : List D) : Option D := match d with
  | .dic ks vs => getX ks vs as
  | _ => none
def mtN (g : D → List D → Option D) (fo : M D) (fa : M (List D)) : M D := bindM fo fun x => if isDic x = true then bindM fa fun ds => liftM (g x ds) else stuckM
def putAllN : List D → List D → List D → List D → List D × List D
  | ks, vs, l :: ls, w :: ws => putAllN (putN l w ks vs).1 (putN l w ks vs).2 ls ws
  | ks, vs, _, _ => (ks, vs)
def dicUpd (c : OC) (as : List D) : Option OC := match c, as with
  | .k ks vs, [.dic ls ws] => if (ks.all isNK && ls.all isNK) = true ∧ (ks ≠ [] ∨ ls = []) ∧ ks.length + ls.length ≤ sizeLine then some (.k (putAllN ks vs ls ws).1 (putAllN ks vs ls ws).2) else none
  | _, _ => none
def updM (i : Nat) (fa : M (List D)) : M D := bindM (getC i) fun c0 => if isDicC c0 = true then bindM fa fun ds => bindM (getC i) fun c => bindM (liftM (dicUpd c ds)) fun c' => bindM (putC i c') fun _ => pureM .non else stuckM
section
variable {m : Md} {X : Cx} {G : Gh} {W : WX} {e : Expr} {es : List Expr} {pos : PySem.Pos}
theorem getX_run {H : Hp} {a : Addr} {kvs : List NEnt} {ks ds : List D} {as : List D} {vs : List V} {d : D} {Q : VK} (n : Nd m H a kvs ks) (r : RepL m H (kvs.map (·.2.2)) ds) (ra : RepL m H vs as) (e : getX ks ds as = some d) (k : ∀ v, Rep m H v d → Q v H) : rGetN m (.ref a) vs H Q := by
  unfold getX at e
  split at e
  · rename_i y z
    split at e
    · rename_i c
      rw [Bool.and_eq_true] at c
      cases e
      cases ra with
      | cons r1 ra =>
        cases ra with
        | cons r2 ra =>
          cases ra
          obtain ⟨ky, h1, h2⟩ := ndK_of r1 c.1
          refine ⟨a, kvs, ks, ds, _, _, y, ky, rfl, rfl, n, r, h1, h2, ?_⟩
          cases g : getN y ks ds with
          | some w => rw [g] at k; exact .inl ⟨w, rfl, fun v rv => k v rv⟩
          | none => rw [g] at k; exact .inr ⟨rfl, k _ r2⟩
    · cases e
  · cases e
theorem de_getF {o : Expr} {apos : PySem.Pos} {fo : M D} {fa : M (List D)} (hK : G.m = ⟨X.K, X.mg, X.w⟩) (hv : X.A.units + 130 < cLine) (ho : DE X G W o fo) (ha : DA X G W (e :: es) fa)
    (hbase : attributeBase o "get" X.env (eval o X.env) = eval o X.env := by rfl)
    (hfew : ((backTo pos (starEach (e :: es) X.env)).all (fun x => !x.1) && (backToKw pos (keywordEach [] X.env)).all (fun x => x.1.isSome)
      && decide ((e :: es).length + ([] : List Keyword).length + (if ([] : List Keyword).isEmpty then 0 else 1) < 30)) = true := by rfl)
    (hline : (apos.endLine == pos.line) = true := by rfl) (hs : starEach (e :: es) X.env = (false, eval e X.env) :: starEach es X.env := by rfl) (hplain : (backTo pos (starEach es X.env)).any (·.1) = false := by rfl) :
    DE X G W (.Call (.Attribute o "get" apos) (e :: es) [] pos) (mtN getDF fo fa) :=
  pe_imp (pe_bmN hK F.slot_dict_get F.type_dict_get (mt_getN hK hv) ho ha hbase hfew hline hs hplain) fun σ H Q ⟨ρ, k, q⟩ => ⟨ρ, k, q.bind.mono fun d ρ1 H1 _ s1 k1 q1 v rv => by
    by_cases c : isDic d = true
    · rw [if_pos c] at q1
      cases d with
      | dic ks vs =>
        obtain ⟨a, kvs, rfl, n, r, _⟩ := nd_frz rv c
        refine ⟨⟨a, kvs, ks, rfl, n⟩, ρ1, k1, q1.bind.mono fun ds ρ2 H2 _ s2 k2 q2 us rs => ?_⟩
        obtain ⟨z, e, q3⟩ := q2.lift k2
        obtain ⟨a', kvs', e', n', r', _⟩ := nd_frz (rv.st s2) c
        cases e'
        exact getX_run n' r' rs e fun u ru => q3 H2 Stable.rfl k2 u ru
      | _ => cases c
    · rw [if_neg c] at q1; exact q1.elim⟩
theorem putAllN_rep {H : Hp} : ∀ {les : List NEnt} {es : List D}, RepL m H (les.map fun p => V.ref p.2.1) (les.map fun p => nkD p.1) → RepL m H (les.map (·.2.2)) es →
    ∀ {kvs : List NEnt} {ds : List D}, RepL m H (kvs.map fun p => V.ref p.2.1) (kvs.map fun p => nkD p.1) → RepL m H (kvs.map (·.2.2)) ds →
    (putAllN (kvs.map fun p => nkD p.1) ds (les.map fun p => nkD p.1) es).1 = (putAllE kvs les).map (fun p => nkD p.1) ∧ RepL m H ((putAllE kvs les).map fun p => V.ref p.2.1) ((putAllE kvs les).map fun p => nkD p.1) ∧ RepL m H ((putAllE kvs les).map (·.2.2)) (putAllN (kvs.map fun p => nkD p.1) ds (les.map fun p => nkD p.1) es).2
  | [], es, _, h2, kvs, ds, k1, k2 => by
    cases h2
    exact ⟨rfl, k1, k2⟩
  | p :: les, es, h1, h2, kvs, ds, k1, k2 => by
    cases h1 with
    | cons a b =>
      cases h2 with
      | cons a2 b2 =>
        obtain ⟨w1, w2, w3⟩ := putN_rep (d := nkD p.1) (k := p.1) (b := p.2.1) a (keyX_nk p.1) a2 k1 k2
        have := putAllN_rep b b2 w2 w3
        rw [List.map_cons, putAllN, w1]
        exact this
theorem de_updC (i : Nat) {x : Str} {pos' apos : PySem.Pos} {fa : M (List D)} (hK : G.m = ⟨X.K, X.mg, X.w⟩) (hv0 : X.A.units + 130 < cLine) (ha : DA X G W (e :: es) fa)
    (hN : X.N[i]? = some x) (hv : Vis X.env.scope x := by first | exact .inl rfl | exact .inr (.inl rfl) | exact .inr (.inr rfl)) (hd : (x == ("__debug__" : Str)) = false := by decide) (hcd : (x == ("__classdict__" : Str)) = false := by decide)
    (hbase : attributeBase (.Name x pos') "update" X.env (eval (.Name x pos') X.env) = eval (.Name x pos') X.env := by rfl)
    (hfew : ((backTo pos (starEach (e :: es) X.env)).all (fun x => !x.1) && (backToKw pos (keywordEach [] X.env)).all (fun x => x.1.isSome)
      && decide ((e :: es).length + ([] : List Keyword).length + (if ([] : List Keyword).isEmpty then 0 else 1) < 30)) = true := by rfl)
    (hline : (apos.endLine == pos.line) = true := by rfl) (hs : starEach (e :: es) X.env = (false, eval e X.env) :: starEach es X.env := by rfl) (hplain : (backTo pos (starEach es X.env)).any (·.1) = false := by rfl) :
    DE X G W (.Call (.Attribute (.Name x pos') "update" apos) (e :: es) [] pos) (updM i fa) :=
  pe_imp (pe_bmN hK F.slot_dict_update F.type_dict_update (mt_updN hK hv0) (pe_var (i := i) hN hv hd hcd) ha hbase hfew hline hs hplain) fun σ H Q ⟨ρ, k, q⟩ => by
    obtain ⟨c0, e0, q⟩ := getC_run q
    obtain ⟨a, o0, h1, h2, h3, _⟩ := k.own i c0 e0
    by_cases c : isDicC c0 = true
    · rw [if_pos c] at q
      cases c0 with
      | l xs => cases c
      | k ks vs =>
        obtain ⟨kvs, ob, n, r, hl⟩ := nd_own h2 h3 c
        refine ⟨_, h1, ⟨a, kvs, ks, rfl, n⟩, ρ, k, q.bind.mono fun ds ρ1 H1 _ s1 k1 q1 us rs => ?_⟩
        obtain ⟨c1, e1, q1⟩ := getC_run q1
        obtain ⟨a', o1, g1, g2, g3, _⟩ := k1.own i c1 e1
        rw [h1] at g1; injection g1 with g1; injection g1 with g1; injection g1 with g1
        subst g1
        obtain ⟨z, e, q3⟩ := q1.bind.lift k1
        unfold dicUpd at e
        split at e
        · rename_i ks1 vs1 ls ws _ _
          split at e
          · rename_i cc
            obtain ⟨cc, cn, cl⟩ := cc
            rw [Bool.and_eq_true] at cc
            cases e
            cases rs with
            | cons rb rs =>
              cases rs
              obtain ⟨kvs1, ob1, n1, r1, _⟩ := nd_own g2 g3 cc.1
              obtain ⟨b, les, rfl, n2, r2, _⟩ := nd_frz rb cc.2
              have ek := n1.ks_
              have el := n2.ks_
              have rk := n1.rp
              have rl := n2.rp
              rw [ek] at rk; rw [el] at rl
              obtain ⟨w1, w2, w3⟩ := putAllN_rep rl r2 rk r1
              rw [← ek, ← el] at w1 w3
              have lk : ks1.length = kvs1.length := by rw [ek, List.length_map]
              have ll : ls.length = les.length := by rw [el, List.length_map]
              have ne : a ≠ b := fun z => by
                subst z
                have mu : Mut (H1 a) := by rcases ob1 with z | ⟨_, z⟩ <;> (rw [z]; trivial)
                cases rb with
                | @dicN _ o2 kvs2 _ _ q5 _ _ _ _ => rw [q5] at mu; exact mu
                | @dicK _ o2 kvs2 _ q5 _ => rw [q5] at mu; exact mu
              refine ⟨a, kvs1, ks1, b, les, ls, rfl, rfl, ne, ob1, n1, n2, ?_, by omega, ?_⟩
              · rcases cn with z | z
                · exact .inl fun y => z (List.eq_nil_of_length_eq_zero (by rw [lk, y]; rfl))
                · exact .inr (List.eq_nil_of_length_eq_zero (by rw [← ll, z]; rfl))
              · have ro : RepO G.m H1 a (newO G.m.w a (putAllE kvs1 les)) (.k (putAllN ks1 vs1 ls ws).1 (putAllN ks1 vs1 ls ws).2) := by
                  unfold newO
                  by_cases z : putAllE kvs1 les = []
                  · rw [if_pos z]
                    rw [z] at w1 w3
                    refine .inl ⟨[], rfl, w1, ?_⟩
                    generalize (putAllN ks1 vs1 ls ws).2 = L at *
                    cases w3
                    exact .nil
                  · rw [if_neg z]
                    exact .inr ⟨_, rfl, z, w1, by rw [w1]; exact w2, w3⟩
                have st : Stable H1 (upd H1 a (newO G.m.w a (putAllE kvs1 les))) := Stable.upd g2 g3.nf
                exact q3 H1 Stable.rfl k1 _ st (k1.wroteC e1 h1 ro) _ .non
          · cases e
        · cases e
    · rw [if_neg c] at q; exact q.elim
end
/-! ### sorted(d) -/
section
variable {prog : Program} {w : World} {A : Around} {E : Value → Shared → Prop} {s : Shared}
theorem sortedC_vals {κ : Heap → PyProof.Rows.KeyKind} {l : Addr} {vs : List Value} {Q : Value → Shared → Prop} (hcol : ∀ (R : List Value → Shared → Prop), (∀ (h' : Heap) (tk : Nat), (∀ b u, s.heap.get? b = some u → h'.get? b = some u) → R vs { s with heap := h', toks := tk }) → wpAny (model prog w) A.in1 (PySem.collect (Value.ref l)) R E s) (hL : vs.length ≤ sizeLine)
    (S : ∀ (h : Heap) (tk : Nat), (∀ b u, s.heap.get? b = some u → h.get? b = some u) → PySem.W.SortsAt prog w A.in1.in1 { s with heap := h, toks := tk } (κ h) vs)
    (h : ∀ (h1 h2 h3 : Heap) (tk : Nat) (p : Addr), (∀ b u, s.heap.get? b = some u → h1.get? b = some u) → (∀ b u, h1.get? b = some u → h2.get? b = some u) → (∀ b u, s.heap.get? b = some u → h3.get? b = some u) → h1.objs.size ≤ p → (∃ e, h2.get? p = some (seqObj "list" (PySem.W.sortVals (κ h3) false vs vs).toArray e)) → Q (Value.ref p) { s with heap := h2, toks := tk }) : wpAny (model prog w) A (call (.builtin "sorted") [.ref l]) Q E s := by
  have z : vs.toArray.size ≤ sizeLine := by rw [List.size_toArray]; exact hL
  refine call_function_entry_kw kind_sorted plain_sorted entry_sorted (args_sorted1 _) ?_
  unfold Builtin.«sorted»
  refine wpAny_bind (m := checkCount "sorted" 1 1 _) (wpAny_pure (wpAny_bind (hcol _ fun h1 tk k1 => ?_)))
  have at1 : (h1.push (seqObj "list" vs.toArray 0)).get? h1.objs.size = some (seqObj "list" vs.toArray 0) := Heap.get?_push_size _ rfl
  have old1 : ∀ b u, h1.get? b = some u → (h1.push (seqObj "list" vs.toArray 0)).get? b = some u := fun b u e => Heap.get?_push_of_some _ e
  have ne1 : ∀ b u, h1.get? b = some u → b ≠ h1.objs.size := fun b u e => Nat.ne_of_lt (Heap.lt_size e)
  have lt1 : ∀ b u, h1.get? b = some u → b < (h1.push (seqObj "list" vs.toArray 0)).objs.size := fun b u e => by rw [size_push']; exact Nat.lt_succ_of_lt (Heap.lt_size e)
  have srt1 : ∀ b u, s.heap.get? b = some u → (PySem.W.sortingHeap (h1.push (seqObj "list" vs.toArray 0)) h1.objs.size vs).get? b = some u := fun b u e => PySem.W.sortingHeap_old (ne1 b u (k1 b u e)) (old1 b u (k1 b u e))
  have go : wpAny (model prog w) A.in1.in1 (Builtin.«list.sort» ⟨[.ref h1.objs.size], []⟩) (fun f s' => f = .done (.ret .none) ∧ Q (.ref h1.objs.size) s') (fun _ _ => False) { s with heap := h1.push (seqObj "list" vs.toArray 0), toks := tk } :=
    PySem.W.list_sort_vals (s := { s with heap := h1.push (seqObj "list" vs.toArray 0), toks := tk }) at1 (S _ tk srt1) hL
      ⟨rfl, h _ _ _ _ _ k1 (fun b u e => (sortedHeap_old (ne1 b u e) (lt1 b u e)).trans (old1 b u e)) srt1 (Nat.le_refl _) (sortedHeap_at at1)⟩
  refine wpAny_bind (wpAny_newList ?_ hL)
  refine wpAny_bind (wpAny_holding (wpAny_call_entry_kw slot_list_sort ⟨_, at1, rfl⟩ entry_list_sort (wpAny_mono go (fun f s' hf => ?_) fun _ _ e => e.elim) (args_list_sort _)))
  obtain ⟨rfl, hq⟩ := hf
  exact ⟨_, rfl, wpAny_pure ⟨_, rfl, hq⟩⟩
end
def rSortMd (m : Md) : List V → Hp → VK → Prop := fun vs H Q => ∃ (a : Addr) (kvs : List NEnt) (ks : List D), vs = [V.ref a] ∧ Nd m H a kvs ks ∧ canSort ks = true ∧ ∀ ys p, RepL m H ys (srtD ks) → H p = none → Q (.ref p) (upd H p (.lst ys))
theorem refs_vals : ∀ kvs : List NEnt, Vals (kvs.map fun p => V.ref p.2.1) (kvs.map fun p => Value.ref p.2.1)
  | [] => .nil
  | p :: l => .cons rfl (refs_vals l)
theorem cr_sortM {X : Cx} {m : Md} (hm0 : m = ⟨X.K, X.mg, X.w⟩) (hc0 : X.calm = true) (hv : X.A.units + 130 < cLine) : CallR X (.builtin "sorted") (rSortMd m) := by
  have hm : m.K = X.K := by rw [hm0]
  intro pins s σ H vs us Q I r h
  obtain ⟨a, kvs, ks, rfl, n, hc, q⟩ := h
  obtain ⟨u, rfl, ru⟩ := vals1 r
  obtain rfl : u = Value.ref a := ru
  obtain ⟨us0, hv1, hz, h3, h4⟩ := n.dict I hm (by rw [hm0])
  have hl0 : kvs.length = us0.length := by have := hv1.length; simpa using this
  obtain ⟨o, es, ep, p1, p2, p3, p4, _, _⟩ := h4
  have p4' : es.toList = (kvs.zip us0).map (fun p => entN X.w p.1.1 p.1.2.1 p.2) := by rw [p4, rowsN, List.map_map]; rfl
  obtain ⟨g1, g2⟩ := raw_rows hv1 p4'
  generalize hxs : kvs.map (fun p => V.ref p.2.1) = xs at *
  generalize hits : kvs.map (fun p => Value.ref p.2.1) = its at *
  have rx : RepL m H xs ks := by rw [← hxs]; exact n.rp
  have rv : Vals xs its := by
    rw [← hxs, ← hits]
    exact refs_vals kvs
  unfold canSort at hc
  rw [Bool.and_eq_true, Bool.and_eq_true, Bool.or_eq_true] at hc
  obtain ⟨c1, c2, c3⟩ := hc
  have c1 := List.all_eq_true.mp c1
  generalize ks = ds at *
  have ok1 : ∀ d ∈ ds, okD d = true := c1
  have lenV : xs.length = ds.length := rx.len
  have lenU : xs.length = its.length := rv.length
  have lenK : kvs.length = its.length := by rw [← hits, List.length_map]
  have each : PySem.W.EachIs (fun (u : Value) (b : V × D) => RelV b.1 u ∧ b ∈ xs.zip ds) its (xs.zip ds) := by
    have go : ∀ {xs : List V} {its : List Value} {ds : List D}, Vals xs its → xs.length = ds.length → PySem.W.EachIs (fun (u : Value) (b : V × D) => RelV b.1 u) its (xs.zip ds) := by
      intro xs its ds r
      induction r generalizing ds with
      | nil => intro h; cases ds with
        | nil => exact .nil
        | cons => simp at h
      | cons h1 _ ih => intro h; cases ds with
        | nil => simp at h
        | cons d ds => exact .cons h1 (ih (by simpa using h))
    have e := go rv lenV
    refine PySem.W.EachIs.of_zip e.length fun p hp => ⟨e.zip p hp, ?_⟩
    exact (List.of_mem_zip hp).2
  have reads : ∀ (h' : Heap), (∀ b o, s.heap.get? b = some o → h'.get? b = some o) → ∀ (u : Value) (b : V × D), RelV b.1 u ∧ b ∈ xs.zip ds → ∃ as, Reads h' u (toPy b.2) as := fun h' kp u b ⟨h1, h2⟩ => by
    have rp := repL_mem rx b h2
    have hd : b.2 ∈ ds := (List.of_mem_zip h2).2
    have dp := rp.dp (SeqAt.canLay_of_shaped (ok1 _ hd))
    rw [hm] at dp
    obtain ⟨as, r1⟩ := Dp.reads I _ _ u dp h1
    exact ⟨as, Reads.keeps kp r1⟩
  have al : PySem.W.AllAlike (ds.map toPy) := fun d hd d' hd' => by
    obtain ⟨x, hx, rfl⟩ := List.mem_map.mp hd
    obtain ⟨y, hy, rfl⟩ := List.mem_map.mp hd'
    exact List.all_eq_true.mp (List.all_eq_true.mp c2 x hx) y hy
  have sb : PySem.W.Sortable (ds.map toPy) := by
    rcases c3 with c3 | c3
    · refine .inl fun d hd => ?_
      obtain ⟨x, hx, rfl⟩ := List.mem_map.mp hd
      have := List.all_eq_true.mp c3 x hx
      cases x with
      | tup l =>
        cases l with
        | nil => simp [isTup] at this
        | cons y l => exact ⟨_, _, rfl⟩
      | _ => simp [isTup] at this
    · refine .inr fun d hd => ?_
      obtain ⟨x, hx, rfl⟩ := List.mem_map.mp hd
      have := List.all_eq_true.mp c3 x hx
      cases x <;> simp [notTup, toPy] at this ⊢
  have dep : ∀ d ∈ ds.map toPy, X.A.in1.in1.units + d.depth < cLine := fun d hd => by
    obtain ⟨x, hx, rfl⟩ := List.mem_map.mp hd
    have := SeqAt.depth_of_shaped (ok1 x hx)
    show X.A.units + 1 + 1 + _ < _
    omega
  have hitl : its.length ≤ sizeLine := by rw [← lenK]; exact hz
  have eds : (xs.zip ds).map (fun b => toPy b.2) = ds.map toPy := by
    rw [show (fun b : V × D => toPy b.2) = toPy ∘ Prod.snd from rfl, ← List.map_map, List.map_snd_zip (by omega)]
  have eachP : ∀ h' : Heap, (∀ b o, s.heap.get? b = some o → h'.get? b = some o) → PySem.W.EachIs (fun v d => ∃ as, Reads h' v d as) its (ds.map toPy) := fun h' kp => by
    rw [← eds]
    have go : ∀ {us : List Value} {bs : List (V × D)}, PySem.W.EachIs (fun (u : Value) (b : V × D) => RelV b.1 u ∧ b ∈ xs.zip ds) us bs → PySem.W.EachIs (fun v d => ∃ as, Reads h' v d as) us (bs.map fun b => toPy b.2) := by
      intro us bs e
      induction e with
      | nil => exact .nil
      | cons h1 _ ih => exact .cons (reads h' kp _ _ h1) ih
    exact go each
  have hcol : ∀ (R : List Value → Shared → Prop), (∀ (h' : Heap) (tk : Nat), (∀ b u, s.heap.get? b = some u → h'.get? b = some u) → R its { s with heap := h', toks := tk }) → wpAny (model X.prog X.w) X.A.in1 (PySem.collect (Value.ref a)) R X.xe s := fun R hR =>
    PySem.W.kdu_collect (KdlSrc.rawDict (es := es) (ep := ep) h3) (I.ok.hd hc0) ⟨o, p1, p2, p3⟩ (by rw [g1]; exact hz) fun h' tk acc kp it => by
      obtain ⟨i1, i2⟩ := it
      have ea : acc.toList = its := by
        apply List.ext_getElem?
        intro i
        rw [Array.getElem?_toList]
        by_cases hi : i < kvs.length
        · have hk : kvs[i]? = some kvs[i] := List.getElem?_eq_getElem hi
          obtain ⟨en, e1, e2⟩ := g2 i _ hk
          have ha : acc[i]? = some acc[i] := Array.getElem?_eq_getElem (by omega)
          obtain ⟨hh, e3⟩ := i2 i _ ha
          have e4 : es[i] = en := by
            rw [Array.getElem?_eq_getElem (by omega)] at e1
            injection e1
          rw [ha, e3, e4, e2, ← hits, List.getElem?_map, hk]
          rfl
        · rw [Array.getElem?_eq_none (by omega), List.getElem?_eq_none (by omega)]
      rw [ea]
      exact hR h' tk kp
  refine sortedC_vals (κ := fun h => PySem.W.dataKind h (ds.map toPy)) hcol hitl (fun h1 tk kp => PySem.W.SortsAt.data (s := { s with heap := h1, toks := tk }) (eachP h1 kp) al sb dep) fun h1 h2 h3 tk p kp1 kp2 kp3 fr ⟨ne, at2⟩ => ?_
  have I1 := I.kept (t' := tk) kp1
  have keys : PySem.W.EachIs (fun (v : Value) (b : V × D) => (PySem.W.dataKind h3 (ds.map toPy)).keyOf v = some (keyT b.2)) its (xs.zip ds) := by
    refine PySem.W.EachIs.mono (fun u b hb => ?_) each
    obtain ⟨as, r1⟩ := reads _ kp3 u b hb
    exact PySem.W.dataKind_some al (List.mem_map.mpr ⟨b.2, (List.of_mem_zip hb.2).2, rfl⟩) r1
  have out := PySem.W.sortVals_each (κ := PySem.W.dataKind h3 (ds.map toPy)) (rev := false) (fun b : V × D => keyT b.2) each keys
  generalize PySem.W.sortVals _ false its its = res at out at2
  generalize hbs : (xs.zip ds).mergeSort _ = bs at out
  have pm : bs.Perm (xs.zip ds) := by rw [← hbs]; exact List.mergeSort_perm _ _
  have e2 : bs.map (·.2) = srtD ds := by
    rw [← hbs]
    unfold srtD
    rw [isort_eq dLe_total, dLe_eq]
    refine (PySem.W.sort_maps (s := PySem.W.sortLe (PyProof.Rows.listOrd PyProof.Rows.itemOrd) false keyT) (Prod.snd : V × D → D) (fun _ _ _ _ => rfl)).trans ?_
    rw [List.map_snd_zip (by omega)]
  have rr : RepL m H (bs.map (·.1)) (srtD ds) := by
    rw [← e2]
    exact repL_of fun p hp => repL_mem rx p (pm.mem_iff.mp hp)
  have hlb : (bs.map (·.1)).length = xs.length := by rw [List.length_map, pm.length_eq, List.length_zip, lenV, Nat.min_self]
  have vals : Vals (bs.map (·.1)) res := by
    have go : ∀ {us : List Value} {bs : List (V × D)}, PySem.W.EachIs (fun (u : Value) (b : V × D) => RelV b.1 u ∧ b ∈ xs.zip ds) us bs → Vals (bs.map (·.1)) us := by
      intro us bs e
      induction e with
      | nil => exact .nil
      | cons h1 _ ih => exact .cons h1.1 ih
    exact go out
  exact ⟨V.ref p, upd H p (.lst (bs.map (·.1))), I1.laid (t' := tk) kp2 fr ⟨by rw [hlb, lenU]; exact hitl, res, ne, vals, at2⟩, rfl, q _ _ rr (I1.hok.fresh fr)⟩
def sortM : List D → Option (List D)
  | [.dic ks _] => if (ks.all isNK && canSort ks) = true then some (srtD ks) else none
  | _ => none
theorem co_sortM {m : Md} : CallO m (rSortMd m) sortM := fun vs ds d H Q r e k => by
  unfold sortM at e
  split at e
  · split at e
    · rename_i c
      cases e
      rw [Bool.and_eq_true] at c
      obtain ⟨v, rfl, rv⟩ := one_of r
      obtain ⟨a, kvs, rfl, n, _, _⟩ := nd_frz rv c.1
      exact ⟨a, kvs, _, rfl, n, c.2, fun ys p ry hp => k p ys _ (Grow.new hp) hp upd_same (ry.st (Grow.new hp).stable)⟩
    · cases e
  · cases e
end DL
end
section
namespace DL
open PySem PySem.Spec L2 DLS
open PyProof.Rows hiding St
/-! ### {k: v}, k nested -/
def tDispN (m : Md) (trs : List (TE × TE)) : TE := fun σ H Q => ∀ p, H p = none → tPairs trs σ (upd H p (.dK [])) fun ps H2 => H2 p = some (.dK []) ∧ ∃ b v d k, ps = [(V.ref b, v)] ∧ Rep m H2 (.ref b) d ∧ keyX d = some k ∧ k.depth ≤ 8 ∧ Q (.ref p) (upd H2 p (NdO m.w p [(k, b, v)]))
theorem pe_dispN {X : Cx} {m : Md} {pos : PySem.Pos} {keys : List (Option Expr)} {values : List Expr} {trs : List (TE × TE)} (hm : m = ⟨X.K, X.mg, X.w⟩) (hv : X.A.units + 130 < cLine) (h : PPs X pos keys values trs) (hall : keys.all (·.isSome) = true) (hl : keys.length = values.length) (h0 : keys ≠ []) (h15 : keys.length ≤ 15) : PE X (.Dict keys values pos) (tDispN m trs) := ⟨fun pins s σ H Q I q => by
  have hn := HOk.fresh I.hok (Nat.le_refl s.heap.objs.size)
  have I1 := Inv.laid (t' := s.toks) I (fun x x_1 q => Heap.get?_push_of_some { cls := Value.type "dict", data := Data.dict #[] } q) (Nat.le_refl s.heap.objs.size) (dk_empty s.heap (Inv.big I))
  have hln := pairTrees_length keys values X.env pos hall hl
  have hne : pairTrees keys values X.env pos ≠ [] := fun he => h0 (List.length_eq_zero_iff.mp (by rw [← hln, he]; rfl))
  rw [arm_eval_Dict, zip_pairTrees keys values X.env pos hall hl, dictDisplay_pairs _ hne (by rw [hln]; omega)]
  refine wpAny_bind (wpAny_standAt (wpAny_bind (wpAny_subDictH (knd := nestedKind X.prog X.w) (show X.A.units + 8 < cLine by omega) (by rw [hln]; exact h15) (thn (h.run pins _ σ (upd H s.heap.objs.size (.dK [])) _ I1 (q s.heap.objs.size hn)) ?_))))
  rintro ws s2 ⟨ps, H2, I2, rel, e, b, v, d, k, rfl, rb, kd, kp, q2⟩
  cases rel with
  | cons r1 r2 =>
    cases r2
    rename_i w0
    obtain ⟨wk, wv⟩ := w0
    obtain ⟨r1, rv⟩ := r1
    have r1 : wk = Value.ref b := r1
    subst r1
    obtain ⟨z, hd, vs0, r0, dd⟩ := dk_of I2.hok e
    cases r0
    refine ⟨[(k, b, wv)], ⟨rfl, rfl, ⟨keyX_is I2 (by rw [hm]) rb kd rfl, kp⟩, trivial⟩, ?_, fun h' tk dd' hs => wpAny_pure ?_⟩
    · obtain ⟨o, es, ep, e1, e2, e3, e4, e5, e6⟩ := dd
      have es0 : es = #[] := by
        apply Array.ext'
        generalize es.toList = l at e5
        cases e5; rfl
      exact ⟨o, es, ep, e1, e2, e3, by rw [es0]; rfl, fun x hx => absurd hx List.not_mem_nil, List.nodup_nil⟩
    · have hw : m.w = X.w := by rw [hm]
      obtain ⟨o', es, ep, e1, e2, e3, e4, e5, e6⟩ := dd'
      have phi : ∀ h2 : Heap, (∀ o, h'.get? s.heap.objs.size = some o → h2.get? s.heap.objs.size = some o) → NdH m.w s.heap.objs.size [(k, b, v)] h2 := fun h2 kp2 =>
        ⟨by rw [sizeLine_eq]; simp, hd, [wv], .cons rv .nil, o', es, ep, kp2 o' e1, e2, e3, by rw [e4, hw]; rfl, by simp⟩
      exact ⟨V.ref _, _, d_write (ob := NdO m.w s.heap.objs.size [(k, b, v)]) I2 (by rw [e]; trivial) hs ⟨o', e1⟩ ⟨phi h' fun _ z => z, ⟨o', e1⟩, fun h1 h2 ⟨z, hd, us2, w1, o2, es2, ep2, w2, w3⟩ kp2 => ⟨z, hd, us2, w1, o2, es2, ep2, kp2 o2 w2, w3⟩⟩, rfl, q2⟩⟩
def dicCN (fs : List (M D × M D)) : M OC := bindM (pairsM fs) fun ps => match ps with
  | [(k, v)] => if isNK k = true then pureM (.k [k] [v]) else stuckM
  | _ => stuckM
section
variable {X : Cx} {G : Gh} {W : WX} {pos : PySem.Pos}
theorem dc_dictN {ks : List (Option Expr)} {vs : List Expr} {fs : List (M D × M D)} (hm0 : G.m = ⟨X.K, X.mg, X.w⟩) (hv : X.A.units + 130 < cLine) (h : DPs X G W ks vs fs) (hall : ks.all (·.isSome) = true) (hl : ks.length = vs.length) (h0 : ks ≠ []) (h15 : ks.length ≤ 15) : DC X G W (.Dict ks vs pos) (dicCN fs) :=
  pe_imp (pe_dispN hm0 hv (dps_pps h) hall hl h0 h15) fun σ H Q ⟨ρ, k, q⟩ => fun p hp => by
    have gr := Grow.new (o := .dK []) hp
    have f : Fresh G σ ρ p := k.fresh hp
    have k1 := (k.grow gr).add f upd_same
    have q1 := q.bind
    refine pairs_read (h := (G.add p (.dK [])).H0) fs k1 ?_
    have q2 := postG.from gr.stable q1
    have conv : ∀ H' ρ', StOk (G.at (G.add p (.dK [])).H0) σ H' ρ' → StOk G σ H' ρ' := fun H' ρ' k' => (StOk.unadd (p := p) (o := .dK []) k' f.1 f.2.1).1
    refine (postG.reG (G := G) (G' := G.at (G.add p (.dK [])).H0) rfl conv q2).mono fun ps ρ2 H2 eq0 s2 k2 q3 k2' ws rs => ?_
    clear eq0
    obtain ⟨q3, _⟩ := q3
    obtain ⟨k3, f3, hp2⟩ := StOk.unadd (p := p) (o := .dK []) k2' f.1 f.2.1
    cases rs with
    | nil => exact q3.elim
    | cons r1 r2 rr =>
      cases rr with
      | cons _ _ _ => exact q3.elim
      | nil =>
        rename_i wp pp
        obtain ⟨kd, vd⟩ := pp
        obtain ⟨kv, vv⟩ := wp
        by_cases c : isNK kd = true
        · have q3 := show postG G W σ H2 ((if isNK kd = true then pureM (OC.k [kd] [vd]) else stuckM) ρ2) _ from q3
          rw [if_pos c] at q3
          obtain ⟨ky, ⟨b, d', eb, rb, kd', kp⟩, hk⟩ := ndK_of r1 c
          have eb : kv = V.ref b := eb
          subst eb
          have r1 : Rep G.m H2 (V.ref b) kd := r1
          refine ⟨hp2, b, vv, kd, ky, rfl, r1, hk, kp, ?_⟩
          have st : Stable H2 (upd H2 p (NdO G.m.w p [(ky, b, vv)])) := Stable.upd hp2 id
          have ek : nkD ky = kd := nk_keyX hk
          refine q3 _ st (k3.upd f3 fun u hu => nfix_of hp2 id hu) p _ upd_same (.inr ⟨[(ky, b, vv)], rfl, by simp, by simp [ek], ?_, ?_⟩) f3
          · exact .cons (r1.st st) .nil
          · exact .cons ((show Rep G.m H2 vv vd from r2).st st) .nil
        · have q3 := show postG G W σ H2 ((if isNK kd = true then pureM (OC.k [kd] [vd]) else stuckM) ρ2) _ from q3
          rw [if_neg c] at q3; exact q3.elim
end
end DL
end
section
namespace DL
open PySem PySem.Spec L2
open PyProof.Rows hiding St
namespace Mi
def Yard_on_board : Fn := fnM false 2 (retM (andV (chainM leA ltA (pureM (.int 0)) (op2 ixX (getM 1) (pureM (.int 0))) (fldM "Yard" "height" (getM 0))) (chainM leA ltA (pureM (.int 0)) (op2 ixX (getM 1) (pureM (.int 1))) (fldM "Yard" "width" (getM 0)))))
def Yard_is_free : Fn := fnM false 2 (retM (andV (methD "Yard" "on_board" [false, false] Mi.Yard_on_board (getM 0) (consA (getM 1) (pureM []))) (op2 ninX (getM 1) (fldM "Yard" "holes" (getM 0)))))
def is_piece : Fn := fnM false 5 (seqM (asgM (getM 1) (tgU 3 (tgs1 (tgN 2) (tgs1 (tgN 3) (tgs1 (tgN 4) (tgs0)))))) (retM (andV (methD "Yard" "is_free" [false, false] Mi.Yard_is_free (getM 0) (consA (getM 2) (pureM []))) (andV (op2 inX (getM 3) (tupM (consM (pureM (.int 0)) (consM (pureM (.int 1)) (pureM []))))) (op2 inX (getM 4) (fldM "Yard" "kinds" (getM 0)))))))
def crowns : Fn := fnM false 6 (retM (lstM (compO (itemsGM (getM 1)) (tgU 3 (tgs1 (tgN 3) (tgs1 (tgN 4) (tgs1 (tgN 5) (tgs0))))) (andM (boolM (op2 eqD (getM 4) (getM 2))) (boolM (op2 eqD (op2 ixX (op2 ixX (fldM "Yard" "kinds" (getM 0)) (getM 5)) (pureM (.int 2))) (pureM (.int 1))))) (getM 3) [3, 4, 5])))
def is_position : Fn := fnM false 6 (seqM (asgM (getM 1) (tgU 2 (tgs1 (tgN 2) (tgs1 (tgN 3) (tgs0))))) (seqM (ifM (orM (boolM (op2 ninX (getM 2) (tupM (consM (pureM (.int 0)) (consM (pureM (.int 1)) (pureM [])))))) (notM (boolM (chainM leA leA (pureM (.int 1)) (callD lenG (consM (getM 3) (pureM []))) (pureM (.int 10)))))) (retM (pureM (.bl false))) (skipM)) (seqM (ifM (notM (boolM (callD allD (consM (lstM (compO (itemsGM (getM 3)) (tgN 4) (pureM true) (callM Mi.is_piece (mdM [false, false] (consA (getM 0) (consA (getM 4) (pureM []))))) [4])) (pureM []))))) (retM (pureM (.bl false))) (skipM)) (seqM (ifM (notM (boolM (callD allD (consM (lstM (compO (rg2M (consM (pureM (.int 1)) (consM (callD lenG (consM (getM 3) (pureM []))) (pureM [])))) (tgN 5) (pureM true) (op2 ltA (op2 ixX (op2 ixX (getM 3) (op2 subD (getM 5) (pureM (.int 1)))) (pureM (.int 0))) (op2 ixX (op2 ixX (getM 3) (getM 5)) (pureM (.int 0)))) [5])) (pureM []))))) (retM (pureM (.bl false))) (skipM)) (retM (op2 gtA (callD lenG (consM (op2 addD (callM Mi.crowns (mdM [false, false, false] (consA (getM 0) (consA (getM 3) (consA (pureM (.int 0)) (pureM [])))))) (callM Mi.crowns (mdM [false, false, false] (consA (getM 0) (consA (getM 3) (consA (pureM (.int 1)) (pureM []))))))) (pureM []))) (pureM (.int 0))))))))
def check_position : Fn := fnM false 2 (ifM (notM (boolM (callM Mi.is_position (mdM [false, false] (consA (getM 0) (consA (getM 1) (pureM []))))))) (raiseM "BadPosition") (skipM))
def rising : Fn := fnM false 2 (retM (callD allD (consM (lstM (compO (rg2M (consM (pureM (.int 1)) (consM (callD lenG (consM (getM 0) (pureM []))) (pureM [])))) (tgN 1) (pureM true) (op2 ltA (op2 ixX (getM 0) (op2 subD (getM 1) (pureM (.int 1)))) (op2 ixX (getM 0) (getM 1))) [1])) (pureM []))))
def is_step : Fn := fnM false 1 (retM (andV (op2 neD (getM 0) (tupM (consM (pureM (.int 0)) (consM (pureM (.int 0)) (pureM []))))) (andV (op2 leA (callD absD (consM (op2 ixX (getM 0) (pureM (.int 0))) (pureM []))) (pureM (.int 4))) (op2 leA (callD absD (consM (op2 ixX (getM 0) (pureM (.int 1))) (pureM []))) (pureM (.int 4))))))
def is_kind : Fn := fnM false 6 (seqM (asgM (getM 1) (tgU 3 (tgs1 (tgN 2) (tgs1 (tgN 3) (tgs1 (tgN 4) (tgs0)))))) (seqM (ifM (orM (boolM (op2 neD (callD lenG (consM (getM 0) (pureM []))) (pureM (.int 1)))) (orM (boolM (op2 ninX (getM 0) (pureM (.str "abcdefghijklmnopqrstuvwxyz")))) (boolM (op2 ninX (getM 4) (tupM (consM (pureM (.int 0)) (consM (pureM (.int 1)) (pureM [])))))))) (retM (pureM (.bl false))) (skipM)) (retM (andV (callM Mi.rising (mdM [false] (consA (getM 2) (pureM [])))) (andV (callM Mi.rising (mdM [false] (consA (getM 3) (pureM [])))) (callD allD (consM (lstM (compO (itemsGM (op2 addD (getM 2) (getM 3))) (tgN 5) (pureM true) (callM Mi.is_step (mdM [false] (consA (getM 5) (pureM [])))) [5])) (pureM []))))))))
def Yard_ini : MS := seqM (ifRaise (orM (notM (boolM (chainM leA leA (pureM (.int 1)) (getM 1) (pureM (.int 5))))) (orM (notM (boolM (chainM leA leA (pureM (.int 1)) (getM 2) (pureM (.int 5))))) (boolM (op2 ninX (getM 6) (tupM (consM (pureM (.str "lost")) (consM (pureM (.str "drawn")) (pureM [])))))))) "BadYard") (seqM (setFM "Yard" "height" (getM 1)) (seqM (setFM "Yard" "width" (getM 2)) (seqM (setFM "Yard" "holes" (lstM (callO listCD (consM (getM 3) (pureM []))))) (seqM (setFM "Yard" "stuck" (getM 6)) (seqM (ifRaise (orM (notM (boolM (callM Mi.rising (mdM [false] (consA (getM 3) (pureM [])))))) (notM (boolM (callD allD (consM (lstM (compO (itemsGM (getM 3)) (tgN 12) (pureM true) (methD "Yard" "on_board" [false, false] Mi.Yard_on_board (getM 0) (consA (getM 12) (pureM []))) [12])) (pureM [])))))) "BadYard") (seqM (ifRaise (orM (notM (boolM (chainM leA leA (pureM (.int 1)) (callD lenG (consM (getM 4) (pureM []))) (pureM (.int 6))))) (notM (boolM (callD allD (consM (lstM (compO (itemsGM (getM 4)) (tgN 8) (pureM true) (callM Mi.is_kind (mdM [false, false] (consA (getM 8) (consA (op2 ixX (getM 4) (getM 8)) (pureM []))))) [8])) (pureM [])))))) "BadYard") (seqM (forIfM 7 (itemsGM (getM 5)) (orM (notM (boolM (callM Mi.rising (mdM [false] (consA (getM 7) (pureM [])))))) (notM (boolM (callD allD (consM (lstM (compO (itemsGM (getM 7)) (tgN 12) (pureM true) (methD "Yard" "is_free" [false, false] Mi.Yard_is_free (getM 0) (consA (getM 12) (pureM []))) [12])) (pureM [])))))) "BadYard") (seqM (setFM "Yard" "goals" (tupM (consM (lstM (callO listCD (consM (op2 ixX (getM 5) (pureM (.int 0))) (pureM [])))) (consM (lstM (callO listCD (consM (op2 ixX (getM 5) (pureM (.int 1))) (pureM [])))) (pureM []))))) (kinM "Yard" "kinds" 8 (itemsGM (lstM (callO sortG (consM (getM 4) (pureM []))))) (tgU 3 (tgs1 (tgN 9) (tgs1 (tgN 10) (tgs1 (tgN 11) (tgs0))))) (op2 ixX (getM 4) (getM 8)) (getM 8) (tupM (consM (lstM (callO listCD (consM (getM 9) (pureM [])))) (consM (lstM (callO listCD (consM (getM 10) (pureM [])))) (consM (getM 11) (pureM []))))))))))))))
def piece_at : Fn := fnM false 5 (seqM (forD (itemsGM (getM 0)) (tgU 3 (tgs1 (tgN 2) (tgs1 (tgN 3) (tgs1 (tgN 4) (tgs0))))) (ifM (boolM (op2 eqD (getM 2) (getM 1))) (retM (tupM (consM (getM 3) (consM (getM 4) (pureM []))))) (skipM))) (retM (pureM .non)))
def turned_step : Fn := fnM false 2 (seqM (ifM (boolM (op2 eqD (getM 1) (pureM (.int 0)))) (retM (getM 0)) (skipM)) (retM (tupM (consM (op2 subD (pureM (.int 0)) (op2 ixX (getM 0) (pureM (.int 0)))) (consM (op2 subD (pureM (.int 0)) (op2 ixX (getM 0) (pureM (.int 1)))) (pureM []))))))
def gone : Fn := fnM false 3 (retM (tupM (consM (op2 addD (op2 ixX (getM 0) (pureM (.int 0))) (op2 mulD (getM 2) (op2 ixX (getM 1) (pureM (.int 0))))) (consM (op2 addD (op2 ixX (getM 0) (pureM (.int 1))) (op2 mulD (getM 2) (op2 ixX (getM 1) (pureM (.int 1))))) (pureM [])))))
def may_end : Fn := fnM false 5 (seqM (ifM (notM (boolM (methD "Yard" "is_free" [false, false] Mi.Yard_is_free (getM 0) (consA (getM 3) (pureM []))))) (retM (pureM (.bl false))) (skipM)) (seqM (setM 4 (callM Mi.piece_at (mdM [false, false] (consA (getM 1) (consA (getM 3) (pureM [])))))) (retM (orV (isN (getM 4)) (op2 neD (op2 ixX (getM 4) (pureM (.int 0))) (getM 2))))))
def ride : Fn := fnM false 7 (seqM (setOM 5 (sizeM (pureM []))) (seqM (setM 6 (pureM (.int 1))) (seqM (whileM (boolM (callM Mi.may_end (mdM [false, false, false, false] (consA (getM 0) (consA (getM 1) (consA (getM 2) (consA (callM Mi.gone (mdM [false, false, false] (consA (getM 3) (consA (getM 4) (consA (getM 6) (pureM [])))))) (pureM [])))))))) (seqM (dropM (mtO 5 appD (consM (getM 6) (pureM [])))) (seqM (ifM (boolM (notN (callM Mi.piece_at (mdM [false, false] (consA (getM 1) (consA (callM Mi.gone (mdM [false, false, false] (consA (getM 3) (consA (getM 4) (consA (getM 6) (pureM [])))))) (pureM []))))))) (retM (rdM 5)) (skipM)) (setM 6 (op2 addD (getM 6) (pureM (.int 1)))))) 100000) (retM (rdM 5)))))
def ways_of : Fn := fnM false 12 (seqM (asgM (getM 2) (tgU 3 (tgs1 (tgN 3) (tgs1 (tgN 4) (tgs1 (tgN 5) (tgs0)))))) (seqM (asgM (op2 ixX (fldM "Yard" "kinds" (getM 0)) (getM 5)) (tgU 3 (tgs1 (tgN 6) (tgs1 (tgN 7) (tgs1 (tgN 8) (tgs0)))))) (seqM (setOM 9 (sizeM (pureM []))) (seqM (forD (itemsGM (getM 6)) (tgN 10) (seqM (setM 10 (callM Mi.turned_step (mdM [false, false] (consA (getM 10) (consA (getM 4) (pureM [])))))) (ifM (boolM (callM Mi.may_end (mdM [false, false, false, false] (consA (getM 0) (consA (getM 1) (consA (getM 4) (consA (callM Mi.gone (mdM [false, false, false] (consA (getM 3) (consA (getM 10) (consA (pureM (.int 1)) (pureM [])))))) (pureM [])))))))) (dropM (mtO 9 appD (consM (tupM (consM (callM Mi.gone (mdM [false, false, false] (consA (getM 3) (consA (getM 10) (consA (pureM (.int 1)) (pureM [])))))) (consM (tupM (consM (pureM (.str "leap")) (consM (getM 10) (consM (pureM (.int 1)) (pureM []))))) (pureM [])))) (pureM [])))) (skipM)))) (seqM (forD (itemsGM (getM 7)) (tgN 10) (seqM (setM 10 (callM Mi.turned_step (mdM [false, false] (consA (getM 10) (consA (getM 4) (pureM [])))))) (forD (itemsGM (callM Mi.ride (mdM [false, false, false, false, false] (consA (getM 0) (consA (getM 1) (consA (getM 4) (consA (getM 3) (consA (getM 10) (pureM []))))))))) (tgN 11) (dropM (mtO 9 appD (consM (tupM (consM (callM Mi.gone (mdM [false, false, false] (consA (getM 3) (consA (getM 10) (consA (getM 11) (pureM [])))))) (consM (tupM (consM (pureM (.str "ride")) (consM (getM 10) (consM (getM 11) (pureM []))))) (pureM [])))) (pureM []))))))) (retM (rdM 9)))))))
def all_ways : Fn := fnM false 8 (seqM (asgM (getM 1) (tgU 2 (tgs1 (tgN 2) (tgs1 (tgN 3) (tgs0))))) (seqM (setOM 4 (sizeM (pureM []))) (seqM (forD (itemsGM (getM 3)) (tgN 5) (ifM (boolM (op2 eqD (op2 ixX (getM 5) (pureM (.int 1))) (getM 2))) (dropM (mtO 4 extD (consM (lstM (compO (itemsGM (callM Mi.ways_of (mdM [false, false, false] (consA (getM 0) (consA (getM 3) (consA (getM 5) (pureM []))))))) (tgU 2 (tgs1 (tgN 6) (tgs1 (tgN 7) (tgs0)))) (pureM true) (tupM (consM (tupM (consM (op2 ixX (getM 5) (pureM (.int 0))) (consM (getM 6) (pureM [])))) (consM (getM 7) (pureM [])))) [6, 7])) (pureM [])))) (skipM))) (retM (rdM 4)))))
def on_goal : Fn := fnM false 4 (retM (callD anyD (consM (lstM (compO (itemsGM (callM Mi.crowns (mdM [false, false, false] (consA (getM 0) (consA (getM 1) (consA (getM 2) (pureM []))))))) (tgN 3) (pureM true) (op2 inX (getM 3) (op2 ixX (fldM "Yard" "goals" (getM 0)) (getM 2))) [3])) (pureM []))))
def verdict_of : Fn := fnM false 5 (seqM (asgM (getM 1) (tgU 2 (tgs1 (tgN 2) (tgs1 (tgN 3) (tgs0))))) (seqM (forD (itemsGM (tupM (consM (pureM (.int 0)) (consM (pureM (.int 1)) (pureM []))))) (tgN 4) (ifM (boolM (op2 eqD (callD lenG (consM (callM Mi.crowns (mdM [false, false, false] (consA (getM 0) (consA (getM 3) (consA (getM 4) (pureM [])))))) (pureM []))) (pureM (.int 0)))) (retM (op2 subD (pureM (.int 1)) (getM 4))) (skipM))) (seqM (forD (itemsGM (tupM (consM (op2 subD (pureM (.int 1)) (getM 2)) (consM (getM 2) (pureM []))))) (tgN 4) (ifM (boolM (callM Mi.on_goal (mdM [false, false, false] (consA (getM 0) (consA (getM 3) (consA (getM 4) (pureM []))))))) (retM (getM 4)) (skipM))) (seqM (ifM (boolM (op2 eqD (callD lenG (consM (callM Mi.all_ways (mdM [false, false] (consA (getM 0) (consA (getM 1) (pureM []))))) (pureM []))) (pureM (.int 0)))) (retM (iteM (boolM (op2 eqD (fldM "Yard" "stuck" (getM 0)) (pureM (.str "lost")))) (op2 subD (pureM (.int 1)) (getM 2)) (pureM (.str "drawn")))) (skipM)) (retM (pureM .non))))))
def moves_of : Fn := fnM true 4 (seqM (ifM (boolM (notN (callM Mi.verdict_of (mdM [false, false] (consA (getM 0) (consA (getM 1) (pureM []))))))) (retM (lstM (sizeM (pureM [])))) (skipM)) (retM (lstM (callO sortS (consM (lstM (compO (itemsGM (callM Mi.all_ways (mdM [false, false] (consA (getM 0) (consA (getM 1) (pureM [])))))) (tgU 2 (tgs1 (tgN 2) (tgs1 (tgN 3) (tgs0)))) (pureM true) (getM 2) [2, 3])) (pureM []))))))
def moves : Fn := fnM true 2 (seqM (dropM (callM Mi.check_position (mdM [false, false] (consA (getM 0) (consA (getM 1) (pureM [])))))) (retM (callM Mi.moves_of (mdM [false, false] (consA (getM 0) (consA (getM 1) (pureM [])))))))
def check_move : Fn := fnM false 3 (seqM (dropM (callM Mi.check_position (mdM [false, false] (consA (getM 0) (consA (getM 1) (pureM [])))))) (seqM (ifM (boolM (notN (callM Mi.verdict_of (mdM [false, false] (consA (getM 0) (consA (getM 1) (pureM []))))))) (raiseM "Ended") (skipM)) (ifM (boolM (op2 ninX (getM 2) (callM Mi.moves_of (mdM [false, false] (consA (getM 0) (consA (getM 1) (pureM []))))))) (raiseM "NoMove") (skipM))))
def after_of : Fn := fnM false 8 (seqM (asgM (getM 0) (tgU 2 (tgs1 (tgN 2) (tgs1 (tgN 3) (tgs0))))) (seqM (setOM 4 (sizeM (pureM []))) (seqM (forD (itemsGM (getM 3)) (tgU 3 (tgs1 (tgN 5) (tgs1 (tgN 6) (tgs1 (tgN 7) (tgs0))))) (ifM (boolM (op2 eqD (getM 5) (op2 ixX (getM 1) (pureM (.int 0))))) (dropM (mtO 4 appD (consM (tupM (consM (op2 ixX (getM 1) (pureM (.int 1))) (consM (getM 6) (consM (getM 7) (pureM []))))) (pureM [])))) (ifM (boolM (op2 neD (getM 5) (op2 ixX (getM 1) (pureM (.int 1))))) (dropM (mtO 4 appD (consM (tupM (consM (getM 5) (consM (getM 6) (consM (getM 7) (pureM []))))) (pureM [])))) (skipM)))) (retM (tupM (consM (op2 subD (pureM (.int 1)) (getM 2)) (consM (callD tupC (consM (lstM (callO sortG (consM (rdM 4) (pureM [])))) (pureM []))) (pureM []))))))))
def after : Fn := fnM false 3 (seqM (dropM (callM Mi.check_move (mdM [false, false, false] (consA (getM 0) (consA (getM 1) (consA (getM 2) (pureM []))))))) (retM (callM Mi.after_of (mdM [false, false] (consA (getM 1) (consA (getM 2) (pureM [])))))))
def verdict : Fn := fnM false 2 (seqM (dropM (callM Mi.check_position (mdM [false, false] (consA (getM 0) (consA (getM 1) (pureM [])))))) (retM (callM Mi.verdict_of (mdM [false, false] (consA (getM 0) (consA (getM 1) (pureM [])))))))
def walked : Fn := fnM true 5 (seqM (dropM (callM Mi.check_position (mdM [false, false] (consA (getM 0) (consA (getM 1) (pureM [])))))) (seqM (setOM 3 (sizeM (consM (getM 1) (pureM [])))) (seqM (forD (itemsGM (getM 2)) (tgN 4) (dropM (mtO 3 appD (consM (callM Mi.after (mdM [false, false, false] (consA (getM 0) (consA (bindM (getO 3) fun _ => opO 3 ixO (negM (pureM (.int 1)))) (consA (getM 4) (pureM [])))))) (pureM []))))) (retM (giveX 3)))))
def check_many : Fn := fnM false 2 (ifM (notM (boolM (chainM leA leA (pureM (.int 0)) (getM 0) (getM 1)))) (raiseM "TooMany") (skipM))
def count_of : Nat → Fn
  | 0 => fun _ => .stuck
  | n + 1 => fnM false 4 (seqM (ifM (boolM (op2 eqD (getM 2) (pureM (.int 0)))) (retM (pureM (.int 1))) (skipM)) (retM (callD sumD (consM (lstM (compO (itemsGM (callM Mi.moves_of (mdM [false, false] (consA (getM 0) (consA (getM 1) (pureM [])))))) (tgN 3) (pureM true) (callM (Mi.count_of n) (mdM [false, false, false] (consA (getM 0) (consA (callM Mi.after_of (mdM [false, false] (consA (getM 1) (consA (getM 3) (pureM []))))) (consA (op2 subD (getM 2) (pureM (.int 1))) (pureM [])))))) [3])) (pureM [])))))
def count : Fn := fnM false 3 (seqM (dropM (callM Mi.check_position (mdM [false, false] (consA (getM 0) (consA (getM 1) (pureM [])))))) (seqM (dropM (callM Mi.check_many (mdM [false, false] (consA (getM 2) (consA (pureM (.int 6)) (pureM [])))))) (retM (callM (Mi.count_of 16) (mdM [false, false, false] (consA (getM 0) (consA (getM 1) (consA (getM 2) (pureM [])))))))))
def is_exchanged : Fn := fnM false 1 (retM (op2 eqD (op2 ixX (getM 0) (pureM (.int 0))) (pureM (.str "x"))))
def quarters : Fn := fnM false 1 (retM (callD intTD (consM (op2 ixX (getM 0) (negM (pureM (.int 1)))) (pureM []))))
def cell_over : Fn := fnM false 7 (seqM (asgM (getM 2) (tgU 2 (tgs1 (tgN 3) (tgs1 (tgN 4) (tgs0))))) (seqM (ifM (boolM (op2 eqD (slM (getM 1) (partM (negM (pureM (.int 5)))) (partM (negM (pureM (.int 1))))) (pureM (.str "flip")))) (setM 4 (op2 subD (op2 subD (fldM "Yard" "width" (getM 0)) (pureM (.int 1))) (getM 4))) (skipM)) (seqM (setM 5 (tupM (consM (fldM "Yard" "height" (getM 0)) (consM (fldM "Yard" "width" (getM 0)) (pureM []))))) (seqM (forD (rg1M (consM (callM Mi.quarters (mdM [false] (consA (getM 1) (pureM [])))) (pureM []))) (tgN 6) (seqM (parM 3 4 (consM (getM 4) (consM (op2 subD (op2 subD (op2 ixX (getM 5) (pureM (.int 0))) (pureM (.int 1))) (getM 3)) (pureM [])))) (setM 5 (tupM (consM (op2 ixX (getM 5) (pureM (.int 1))) (consM (op2 ixX (getM 5) (pureM (.int 0))) (pureM []))))))) (retM (tupM (consM (getM 3) (consM (getM 4) (pureM [])))))))))
def step_over : Fn := fnM false 5 (seqM (asgM (getM 1) (tgU 2 (tgs1 (tgN 2) (tgs1 (tgN 3) (tgs0))))) (seqM (ifM (boolM (op2 eqD (slM (getM 0) (partM (negM (pureM (.int 5)))) (partM (negM (pureM (.int 1))))) (pureM (.str "flip")))) (setM 3 (op2 subD (pureM (.int 0)) (getM 3))) (skipM)) (seqM (forD (rg1M (consM (callM Mi.quarters (mdM [false] (consA (getM 0) (pureM [])))) (pureM []))) (tgN 4) (parM 2 3 (consM (getM 3) (consM (op2 subD (pureM (.int 0)) (getM 2)) (pureM []))))) (seqM (ifM (boolM (callM Mi.is_exchanged (mdM [false] (consA (getM 0) (pureM []))))) (retM (tupM (consM (op2 subD (pureM (.int 0)) (getM 2)) (consM (op2 subD (pureM (.int 0)) (getM 3)) (pureM []))))) (skipM)) (retM (tupM (consM (getM 2) (consM (getM 3) (pureM [])))))))))
def cells_over : Fn := fnM false 4 (retM (lstM (callO sortG (consM (lstM (compO (itemsGM (getM 2)) (tgN 3) (pureM true) (callM Mi.cell_over (mdM [false, false, false] (consA (getM 0) (consA (getM 1) (consA (getM 3) (pureM [])))))) [3])) (pureM [])))))
def steps_stay : Fn := fnM false 5 (seqM (forD (itemsGM (fldM "Yard" "kinds" (getM 0))) (tgN 2) (forD (itemsGM (slM (op2 ixX (fldM "Yard" "kinds" (getM 0)) (getM 2)) (pureM none) (partM (pureM (.int 2))))) (tgN 3) (ifM (boolM (op2 neD (lstM (callO sortG (consM (lstM (compO (itemsGM (getM 3)) (tgN 4) (pureM true) (callM Mi.step_over (mdM [false, false] (consA (getM 1) (consA (getM 4) (pureM []))))) [4])) (pureM [])))) (getM 3))) (retM (pureM (.bl false))) (skipM)))) (retM (pureM (.bl true))))
def goals_stay : Fn := fnM false 4 (seqM (forD (itemsGM (tupM (consM (pureM (.int 0)) (consM (pureM (.int 1)) (pureM []))))) (tgN 2) (seqM (setM 3 (iteM (boolM (callM Mi.is_exchanged (mdM [false] (consA (getM 1) (pureM []))))) (op2 subD (pureM (.int 1)) (getM 2)) (getM 2))) (ifM (boolM (op2 neD (callM Mi.cells_over (mdM [false, false, false] (consA (getM 0) (consA (getM 1) (consA (op2 ixX (fldM "Yard" "goals" (getM 0)) (getM 2)) (pureM [])))))) (op2 ixX (fldM "Yard" "goals" (getM 0)) (getM 3)))) (retM (pureM (.bl false))) (skipM)))) (retM (pureM (.bl true))))
def is_borne : Fn := fnM false 2 (seqM (ifM (andM (boolM (op2 eqD (op2 modD (callM Mi.quarters (mdM [false] (consA (getM 1) (pureM [])))) (pureM (.int 2))) (pureM (.int 1)))) (boolM (op2 neD (fldM "Yard" "height" (getM 0)) (fldM "Yard" "width" (getM 0))))) (retM (pureM (.bl false))) (skipM)) (seqM (ifM (boolM (op2 neD (callM Mi.cells_over (mdM [false, false, false] (consA (getM 0) (consA (getM 1) (consA (fldM "Yard" "holes" (getM 0)) (pureM [])))))) (fldM "Yard" "holes" (getM 0)))) (retM (pureM (.bl false))) (skipM)) (retM (andV (callM Mi.steps_stay (mdM [false, false] (consA (getM 0) (consA (getM 1) (pureM []))))) (callM Mi.goals_stay (mdM [false, false] (consA (getM 0) (consA (getM 1) (pureM [])))))))))
def bears : Fn := fnM true 2 (retM (lstM (compO (itemsGM (pureM (.lst ((["turn0", "turn1", "turn2", "turn3", "flip0", "flip1", "flip2", "flip3", "xturn0", "xturn1", "xturn2", "xturn3", "xflip0", "xflip1", "xflip2", "xflip3"] : List Str).map D.str)))) (tgN 1) (boolM (callM Mi.is_borne (mdM [false, false] (consA (getM 0) (consA (getM 1) (pureM [])))))) (getM 1) [1])))
def side_over : Fn := fnM false 2 (retM (iteM (boolM (callM Mi.is_exchanged (mdM [false] (consA (getM 0) (pureM []))))) (op2 subD (pureM (.int 1)) (getM 1)) (getM 1)))
def over_of : Fn := fnM false 9 (seqM (asgM (getM 2) (tgU 2 (tgs1 (tgN 3) (tgs1 (tgN 4) (tgs0))))) (seqM (setOM 5 (compO (itemsGM (getM 4)) (tgU 3 (tgs1 (tgN 6) (tgs1 (tgN 7) (tgs1 (tgN 8) (tgs0))))) (pureM true) (tupM (consM (callM Mi.cell_over (mdM [false, false, false] (consA (getM 0) (consA (getM 1) (consA (getM 6) (pureM [])))))) (consM (callM Mi.side_over (mdM [false, false] (consA (getM 1) (consA (getM 7) (pureM []))))) (consM (getM 8) (pureM []))))) [6, 7, 8])) (retM (tupM (consM (callM Mi.side_over (mdM [false, false] (consA (getM 1) (consA (getM 3) (pureM []))))) (consM (callD tupC (consM (lstM (callO sortG (consM (rdM 5) (pureM [])))) (pureM []))) (pureM [])))))))
def kin : Fn := fnM true 3 (seqM (dropM (callM Mi.check_position (mdM [false, false] (consA (getM 0) (consA (getM 1) (pureM [])))))) (retM (lstM (callO sortS (consM (lstM (compO (itemsGM (callM Mi.bears (mdM [false] (consA (getM 0) (pureM []))))) (tgN 2) (pureM true) (callM Mi.over_of (mdM [false, false, false] (consA (getM 0) (consA (getM 2) (consA (getM 1) (pureM [])))))) [2])) (pureM []))))))
def check_asked : Fn := fnM false 4 (seqM (dropM (callM Mi.check_position (mdM [false, false] (consA (getM 0) (consA (getM 1) (pureM [])))))) (seqM (ifM (boolM (op2 ninX (getM 2) (tupM (consM (pureM (.int 0)) (consM (pureM (.int 1)) (pureM [])))))) (raiseM "BadSide") (skipM)) (ifM (notM (boolM (chainM leA leA (pureM (.int 0)) (getM 3) (pureM (.int 8))))) (raiseM "TooMany") (skipM))))
def wins : Nat → Fn
  | 0 => fun _ => .stuck
  | n + 1 => fnM false 10 (seqM (setM 5 (callM Mi.verdict_of (mdM [false, false] (consA (getM 0) (consA (getM 1) (pureM [])))))) (seqM (ifM (orM (boolM (notN (getM 5))) (boolM (op2 eqD (getM 3) (pureM (.int 0))))) (retM (op2 eqD (getM 5) (getM 2))) (skipM)) (seqM (setM 6 (tupM (consM (getM 1) (consM (getM 3) (pureM []))))) (seqM (ifM (lendT (boolM (op2 ninX (getM 6) (getM 4)))) (seqM (setOM 7 (compO (itemsGM (callM Mi.moves_of (mdM [false, false] (consA (getM 0) (consA (getM 1) (pureM [])))))) (tgN 8) (pureM true) (callM Mi.after_of (mdM [false, false] (consA (getM 1) (consA (getM 8) (pureM []))))) [8])) (ifM (boolM (op2 eqD (op2 ixX (getM 1) (pureM (.int 0))) (getM 2))) (setGM setAD 4 (getM 6) (callD anyD (consM (lstM (compO (itemsGM (rdM 7)) (tgN 9) (pureM true) (callM (Mi.wins n) (mdM [false, false, false, false, true] (consA (getM 0) (consA (getM 9) (consA (getM 2) (consA (op2 subD (getM 3) (pureM (.int 1))) (bindM (haveS 4) fun _ => consS 4 (pureM [])))))))) [9])) (pureM [])))) (setGM setAD 4 (getM 6) (callD allD (consM (lstM (compO (itemsGM (rdM 7)) (tgN 9) (pureM true) (callM (Mi.wins n) (mdM [false, false, false, false, true] (consA (getM 0) (consA (getM 9) (consA (getM 2) (consA (op2 subD (getM 3) (pureM (.int 1))) (bindM (haveS 4) fun _ => consS 4 (pureM [])))))))) [9])) (pureM [])))))) (skipM)) (retM (bindM (getC 4) fun _ => opC 4 ixC (getM 6)))))))
def is_tree : Nat → Fn
  | 0 => fun _ => .stuck
  | n + 1 => fnM false 3 (seqM (ifM (boolM (op2 eqD (getM 0) (tupM (consM (getM 1) (pureM []))))) (retM (pureM (.bl true))) (skipM)) (seqM (ifM (andM (boolM (op2 eqD (callD lenG (consM (getM 0) (pureM []))) (pureM (.int 3)))) (boolM (op2 eqD (op2 ixX (getM 0) (pureM (.int 0))) (pureM (.str "move"))))) (retM (callM (Mi.is_tree n) (mdM [false, false] (consA (op2 ixX (getM 0) (pureM (.int 2))) (consA (getM 1) (pureM [])))))) (skipM)) (seqM (ifM (andM (boolM (op2 eqD (callD lenG (consM (getM 0) (pureM []))) (pureM (.int 2)))) (andM (boolM (op2 eqD (op2 ixX (getM 0) (pureM (.int 0))) (pureM (.str "all")))) (boolM (op2 gtA (callD lenG (consM (op2 ixX (getM 0) (pureM (.int 1))) (pureM []))) (pureM (.int 0)))))) (retM (callD allD (consM (lstM (compO (itemsGM (op2 ixX (getM 0) (pureM (.int 1)))) (tgN 2) (pureM true) (callM (Mi.is_tree n) (mdM [false, false] (consA (op2 ixX (getM 2) (pureM (.int 1))) (consA (getM 1) (pureM []))))) [2])) (pureM [])))) (skipM)) (retM (pureM (.bl false))))))
def least_by : Fn := fnM false 6 (seqM (forD (rg1M (consM (op2 addD (getM 3) (pureM (.int 1))) (pureM []))) (tgN 5) (ifM (boolM (callM (Mi.wins 16) (mdM [false, false, false, false, true] (consA (getM 0) (consA (getM 1) (consA (getM 2) (consA (getM 5) (bindM (haveS 4) fun _ => consS 4 (pureM []))))))))) (retM (getM 5)) (skipM))) (retM (pureM .non)))
def least_of : Fn := fnM false 4 (retM (callM Mi.least_by (mdM [false, false, false, false, true] (consA (getM 0) (consA (getM 1) (consA (getM 2) (consA (getM 3) (consC (pureM (.k [] [])) (pureM [])))))))))
def least : Fn := fnM false 4 (seqM (dropM (callM Mi.check_asked (mdM [false, false, false, false] (consA (getM 0) (consA (getM 1) (consA (getM 2) (consA (getM 3) (pureM [])))))))) (retM (callM Mi.least_of (mdM [false, false, false, false] (consA (getM 0) (consA (getM 1) (consA (getM 2) (consA (getM 3) (pureM [])))))))))
def depth_of : Nat → Fn
  | 0 => fun _ => .stuck
  | n + 1 => fnM false 2 (seqM (ifM (boolM (op2 eqD (op2 ixX (getM 0) (pureM (.int 0))) (pureM (.str "move")))) (retM (op2 addD (pureM (.int 1)) (callM (Mi.depth_of n) (mdM [false] (consA (op2 ixX (getM 0) (pureM (.int 2))) (pureM [])))))) (skipM)) (seqM (ifM (boolM (op2 eqD (op2 ixX (getM 0) (pureM (.int 0))) (pureM (.str "all")))) (retM (op2 addD (pureM (.int 1)) (callD maxLD (consM (lstM (compO (itemsGM (op2 ixX (getM 0) (pureM (.int 1)))) (tgN 1) (pureM true) (callM (Mi.depth_of n) (mdM [false] (consA (op2 ixX (getM 1) (pureM (.int 1))) (pureM [])))) [1])) (pureM []))))) (skipM)) (retM (pureM (.int 0)))))
def check_either : Fn := fnM false 1 (ifM (andM (notM (boolM (callM (Mi.is_tree 16) (mdM [false, false] (consA (getM 0) (consA (pureM (.str "won")) (pureM []))))))) (notM (boolM (callM (Mi.is_tree 16) (mdM [false, false] (consA (getM 0) (consA (pureM (.str "not")) (pureM [])))))))) (raiseM "BadPaper") (skipM))
def depth : Fn := fnM false 1 (seqM (dropM (callM Mi.check_either (mdM [false] (consA (getM 0) (pureM []))))) (retM (callM (Mi.depth_of 16) (mdM [false] (consA (getM 0) (pureM []))))))
def next_ones : Fn := fnM false 3 (retM (lstM (compO (itemsGM (callM Mi.moves_of (mdM [false, false] (consA (getM 0) (consA (getM 1) (pureM [])))))) (tgN 2) (pureM true) (callM Mi.after_of (mdM [false, false] (consA (getM 1) (consA (getM 2) (pureM []))))) [2])))
def reach_of : Fn := fnM false 6 (seqM (setCM 2 (dicCN [(getM 1, callM Mi.next_ones (mdM [false, false] (consA (getM 0) (consA (getM 1) (pureM [])))))])) (seqM (setOM 3 (sizeM (consM (getM 1) (pureM [])))) (seqM (whileM (lendT (boolM (op2 gtA (callD lenG (consM (getM 3) (pureM []))) (pureM (.int 0))))) (seqM (setM 4 (mtO 3 popD (pureM []))) (forD (itemsGM (bindM (getC 2) fun _ => opC 2 ixC (getM 4))) (tgN 5) (ifM (lendT (boolM (op2 ninX (getM 5) (getM 2)))) (seqM (ifM (lendT (boolM (op2 eqD (callD lenX (consM (getM 2) (pureM []))) (pureM (.int 150))))) (raiseM "TooMany") (skipM)) (seqM (setGM setAD 2 (getM 5) (callM Mi.next_ones (mdM [false, false] (consA (getM 0) (consA (getM 5) (pureM [])))))) (dropM (mtO 3 appD (consM (getM 5) (pureM [])))))) (skipM)))) 100000) (retM (rdM 2)))))
def reach : Fn := fnM true 2 (seqM (dropM (callM Mi.check_position (mdM [false, false] (consA (getM 0) (consA (getM 1) (pureM [])))))) (retM (lstM (callO sortM (consM (callM Mi.reach_of (mdM [false, false] (consA (getM 0) (consA (getM 1) (pureM []))))) (pureM []))))))
def rank_by : Fn := fnM false 5 (seqM (ifM (boolM (notN (getM 0))) (retM (iteM (boolM (op2 eqD (getM 0) (pureM (.str "drawn")))) (pureM .non) (tupM (consM (getM 0) (consM (pureM (.int 0)) (pureM [])))))) (skipM)) (seqM (setOM 3 (compO (itemsGM (getM 2)) (tgN 4) (andM (boolM (notN (getM 4))) (boolM (op2 eqD (op2 ixX (getM 4) (pureM (.int 0))) (getM 1)))) (op2 ixX (getM 4) (pureM (.int 1))) [4])) (seqM (ifM (lendT (boolM (op2 gtA (callD lenG (consM (getM 3) (pureM []))) (pureM (.int 0))))) (retM (tupM (consM (getM 1) (consM (op2 addD (pureM (.int 1)) (callD minAD (consM (rdM 3) (pureM [])))) (pureM []))))) (skipM)) (seqM (ifM (boolM (op2 inX (pureM .non) (getM 2))) (retM (pureM .non)) (skipM)) (retM (tupM (consM (op2 subD (pureM (.int 1)) (getM 1)) (consM (op2 addD (pureM (.int 1)) (callD maxLD (consM (lstM (compO (itemsGM (getM 2)) (tgN 4) (pureM true) (op2 ixX (getM 4) (pureM (.int 1))) [4])) (pureM [])))) (pureM [])))))))))
def ranks_of : Fn := fnM true 11 (seqM (setCM 2 (pureM (.k [] []))) (seqM (setCM 3 (pureM (.k [] []))) (seqM (forD (itemsXM (getM 1)) (tgN 4) (seqM (setGM setAD 3 (getM 4) (callM Mi.verdict_of (mdM [false, false] (consA (getM 0) (consA (getM 4) (pureM [])))))) (setGM setAD 2 (getM 4) (callM Mi.rank_by (mdM [false, false, false] (consA (bindM (getC 3) fun _ => opC 3 ixC (getM 4)) (consA (pureM (.int 0)) (consA (lstM (sizeM (consM (pureM .non) (pureM [])))) (pureM []))))))))) (seqM (setOM 5 (compO (itemsXM (getM 1)) (tgN 4) (lendT (boolM (isN (op2 ixX (getM 2) (getM 4))))) (getM 4) [4])) (seqM (setM 6 (pureM (.int 0))) (seqM (setM 7 (pureM (.bl true))) (seqM (whileM (boolM (getM 7)) (seqM (setM 6 (op2 addD (getM 6) (pureM (.int 1)))) (seqM (setCM 8 (pureM (.k [] []))) (seqM (forD (itemsXM (rdM 5)) (tgN 4) (seqM (setM 9 (callM Mi.rank_by (mdM [false, false, false] (consA (bindM (getC 3) fun _ => opC 3 ixC (getM 4)) (consA (op2 ixX (getM 4) (pureM (.int 0))) (consA (lstM (compO (itemsGM (op2 ixX (getM 1) (getM 4))) (tgN 10) (pureM true) (bindM (getC 2) fun _ => opC 2 ixC (getM 10)) [10])) (pureM []))))))) (ifM (andM (boolM (notN (getM 9))) (boolM (op2 eqD (op2 ixX (getM 9) (pureM (.int 1))) (getM 6)))) (setGM setAD 8 (getM 4) (getM 9)) (skipM)))) (seqM (dropM (updM 2 (consM (rdM 8) (pureM [])))) (seqM (setOM 5 (compO (itemsXM (rdM 5)) (tgN 4) (lendT (boolM (op2 ninX (getM 4) (getM 8)))) (getM 4) [4])) (setM 7 (lendM (op2 gtA (callD lenX (consM (getM 8) (pureM []))) (pureM (.int 0)))))))))) 100000) (retM (giveX 2)))))))))
def ranks : Fn := fnM true 2 (seqM (dropM (callM Mi.check_position (mdM [false, false] (consA (getM 0) (consA (getM 1) (pureM [])))))) (retM (callM Mi.ranks_of (mdM [false, false] (consA (getM 0) (consA (callM Mi.reach_of (mdM [false, false] (consA (getM 0) (consA (getM 1) (pureM []))))) (pureM [])))))))
def check_side : Fn := fnM false 1 (ifM (boolM (op2 ninX (getM 0) (tupM (consM (pureM (.int 0)) (consM (pureM (.int 1)) (pureM [])))))) (raiseM "BadSide") (skipM))
def stay : Fn := fnM true 6 (seqM (dropM (callM Mi.check_position (mdM [false, false] (consA (getM 0) (consA (getM 1) (pureM [])))))) (seqM (dropM (callM Mi.check_side (mdM [false] (consA (getM 2) (pureM []))))) (seqM (setM 3 (callM Mi.ranks_of (mdM [false, false] (consA (getM 0) (consA (callM Mi.reach_of (mdM [false, false] (consA (getM 0) (consA (getM 1) (pureM []))))) (pureM [])))))) (seqM (setOM 4 (compO (itemsXM (getM 3)) (tgN 5) (orM (boolM (isN (op2 ixX (getM 3) (getM 5)))) (boolM (op2 eqD (op2 ixX (op2 ixX (getM 3) (getM 5)) (pureM (.int 0))) (getM 2)))) (getM 5) [5])) (seqM (ifM (lendT (boolM (op2 ninX (getM 1) (getM 4)))) (retXM (pureM .non)) (skipM)) (retM (lstM (callO sortG (consM (rdM 4) (pureM []))))))))))
def stays_on : Fn := fnM false 7 (seqM (setM 4 (callM Mi.verdict_of (mdM [false, false] (consA (getM 0) (consA (getM 3) (pureM [])))))) (seqM (ifM (boolM (notN (getM 4))) (retM (op2 neD (getM 4) (op2 subD (pureM (.int 1)) (getM 1)))) (skipM)) (seqM (setOM 5 (compO (itemsGM (callM Mi.next_ones (mdM [false, false] (consA (getM 0) (consA (getM 3) (pureM [])))))) (tgN 6) (pureM true) (op2 inX (getM 6) (getM 2)) [6])) (retM (lendM (iteM (boolM (op2 eqD (op2 ixX (getM 3) (pureM (.int 0))) (getM 1))) (callD anyD (consM (getM 5) (pureM []))) (callD allD (consM (getM 5) (pureM [])))))))))
def stay_holds : Fn := fnM false 6 (seqM (dropM (callM Mi.check_position (mdM [false, false] (consA (getM 0) (consA (getM 1) (pureM [])))))) (seqM (dropM (callM Mi.check_side (mdM [false] (consA (getM 2) (pureM []))))) (seqM (ifM (notM (boolM (callD allD (consM (lstM (compO (itemsGM (getM 3)) (tgN 4) (pureM true) (callM Mi.is_position (mdM [false, false] (consA (getM 0) (consA (getM 4) (pureM []))))) [4])) (pureM []))))) (raiseM "BadPaper") (skipM)) (seqM (ifM (orM (boolM (op2 ninX (getM 1) (getM 3))) (notM (boolM (callD allD (consM (lstM (compO (rg2M (consM (pureM (.int 1)) (consM (callD lenG (consM (getM 3) (pureM []))) (pureM [])))) (tgN 5) (pureM true) (op2 ltA (op2 ixX (getM 3) (op2 subD (getM 5) (pureM (.int 1)))) (op2 ixX (getM 3) (getM 5))) [5])) (pureM [])))))) (retM (pureM (.bl false))) (skipM)) (retM (callD allD (consM (lstM (compO (itemsGM (getM 3)) (tgN 4) (pureM true) (callM Mi.stays_on (mdM [false, false, false, false] (consA (getM 0) (consA (getM 2) (consA (getM 3) (consA (getM 4) (pureM []))))))) [4])) (pureM []))))))))
def is_rank : Fn := fnM false 1 (retM (orV (isN (getM 0)) (andV (op2 inX (op2 ixX (getM 0) (pureM (.int 0))) (tupM (consM (pureM (.int 0)) (consM (pureM (.int 1)) (pureM []))))) (op2 geA (op2 ixX (getM 0) (pureM (.int 1))) (pureM (.int 0))))))
def check_paper : Fn := fnM false 3 (forD (itemsXM (getM 1)) (tgN 2) (ifM (orM (notM (boolM (callM Mi.is_position (mdM [false, false] (consA (getM 0) (consA (getM 2) (pureM []))))))) (notM (boolM (callM Mi.is_rank (mdM [false] (consA (op2 ixX (getM 1) (getM 2)) (pureM []))))))) (raiseM "BadPaper") (skipM)))
def ranks_hold : Fn := fnM false 6 (seqM (dropM (callM Mi.check_paper (mdM [false, false] (consA (getM 0) (consA (getM 1) (pureM [])))))) (seqM (forD (itemsXM (getM 1)) (tgN 2) (seqM (setM 3 (callM Mi.next_ones (mdM [false, false] (consA (getM 0) (consA (getM 2) (pureM [])))))) (seqM (ifM (notM (boolM (callD allD (consM (lstM (compO (itemsXM (getM 3)) (tgN 5) (pureM true) (op2 inX (getM 5) (getM 1)) [5])) (pureM []))))) (retM (pureM (.bl false))) (skipM)) (seqM (setOM 4 (compO (itemsXM (getM 3)) (tgN 5) (pureM true) (op2 ixX (getM 1) (getM 5)) [5])) (ifM (lendT (boolM (op2 neD (callM Mi.rank_by (mdM [false, false, false] (consA (callM Mi.verdict_of (mdM [false, false] (consA (getM 0) (consA (getM 2) (pureM []))))) (consA (op2 ixX (getM 2) (pureM (.int 0))) (consA (getM 4) (pureM [])))))) (op2 ixX (getM 1) (getM 2))))) (retM (pureM (.bl false))) (skipM)))))) (retM (pureM (.bl true)))))
def win_move : Fn := fnM false 5 (seqM (dropM (callM Mi.check_position (mdM [false, false] (consA (getM 0) (consA (getM 2) (pureM [])))))) (seqM (setM 3 (mtN getDF (getM 1) (consM (getM 2) (consM (pureM .non) (pureM []))))) (seqM (ifM (orM (boolM (isN (getM 3))) (orM (boolM (op2 neD (op2 ixX (getM 3) (pureM (.int 0))) (op2 ixX (getM 2) (pureM (.int 0))))) (boolM (op2 eqD (op2 ixX (getM 3) (pureM (.int 1))) (pureM (.int 0)))))) (raiseM "NoWin") (skipM)) (seqM (forD (itemsGM (callM Mi.moves_of (mdM [false, false] (consA (getM 0) (consA (getM 2) (pureM [])))))) (tgN 4) (ifM (boolM (op2 eqD (op2 ixX (getM 1) (callM Mi.after_of (mdM [false, false] (consA (getM 2) (consA (getM 4) (pureM [])))))) (tupM (consM (op2 ixX (getM 3) (pureM (.int 0))) (consM (op2 subD (op2 ixX (getM 3) (pureM (.int 1))) (pureM (.int 1))) (pureM [])))))) (retM (getM 4)) (skipM))) (raiseM "NoWin")))))
def stay_move : Fn := fnM false 4 (seqM (dropM (callM Mi.check_position (mdM [false, false] (consA (getM 0) (consA (getM 2) (pureM [])))))) (seqM (ifM (boolM (op2 ninX (getM 2) (getM 1))) (raiseM "NoMove") (skipM)) (seqM (forD (itemsGM (callM Mi.moves_of (mdM [false, false] (consA (getM 0) (consA (getM 2) (pureM [])))))) (tgN 3) (ifM (boolM (op2 inX (callM Mi.after_of (mdM [false, false] (consA (getM 2) (consA (getM 3) (pureM []))))) (getM 1))) (retM (getM 3)) (skipM))) (raiseM "NoMove"))))
def check_problem : Fn := fnM false 3 (seqM (dropM (callM Mi.check_position (mdM [false, false] (consA (getM 0) (consA (getM 1) (pureM [])))))) (seqM (ifM (notM (boolM (chainM leA leA (pureM (.int 1)) (getM 2) (pureM (.int 7))))) (raiseM "TooMany") (skipM)) (ifM (boolM (notN (callM Mi.verdict_of (mdM [false, false] (consA (getM 0) (consA (getM 1) (pureM []))))))) (raiseM "Ended") (skipM))))
def keys_of : Fn := fnM true 7 (seqM (setCM 3 (pureM (.k [] []))) (seqM (setM 4 (op2 ixX (getM 1) (pureM (.int 0)))) (seqM (setM 5 (callM Mi.moves_of (mdM [false, false] (consA (getM 0) (consA (getM 1) (pureM [])))))) (retM (lstM (compO (itemsGM (getM 5)) (tgN 6) (boolM (callM (Mi.wins 16) (mdM [false, false, false, false, true] (consA (getM 0) (consA (callM Mi.after_of (mdM [false, false] (consA (getM 1) (consA (getM 6) (pureM []))))) (consA (getM 4) (consA (op2 subD (getM 2) (pureM (.int 1))) (bindM (haveS 3) fun _ => consS 3 (pureM []))))))))) (getM 6) [6]))))))
def keys : Fn := fnM true 3 (seqM (dropM (callM Mi.check_problem (mdM [false, false, false] (consA (getM 0) (consA (getM 1) (consA (getM 2) (pureM []))))))) (retM (callM Mi.keys_of (mdM [false, false, false] (consA (getM 0) (consA (getM 1) (consA (getM 2) (pureM []))))))))
def numbers : Fn := fnM false 7 (seqM (dropM (callM Mi.check_asked (mdM [false, false, false, false] (consA (getM 0) (consA (getM 1) (consA (getM 2) (consA (getM 3) (pureM [])))))))) (seqM (setCM 5 (pureM (.k [] []))) (retM (lstM (compO (itemsGM (callM Mi.walked (mdM [false, false, false] (consA (getM 0) (consA (getM 1) (consA (getM 4) (pureM []))))))) (tgN 6) (pureM true) (callM Mi.least_by (mdM [false, false, false, false, true] (consA (getM 0) (consA (getM 6) (consA (getM 2) (consA (getM 3) (bindM (haveS 5) fun _ => consS 5 (pureM [])))))))) [6])))))
end Mi
end DL
end
section
namespace DL
open PySem PySem.Spec L2
open PyProof.Rows hiding St
namespace Mi
def law_cell_at : Fn := fnM false 2 (seqM (ifM (boolM (op2 ltA (getM 1) (callD lenG (consM (getM 0) (pureM []))))) (retM (op2 ixX (getM 0) (getM 1))) (skipM)) (retM (pureM (.int 0))))
end Mi
end DL
end
section
namespace DL
open PySem PySem.Spec L2
open PyProof.Rows hiding St
/-! ### a list so many times over -/
end DL
end
section
namespace DL
open PySem PySem.Spec L2 DLS
open PyProof.Rows hiding St
/-! ### an own list compared with what a call tells: the list stays the def's own -/
section
variable {X : Cx} {G : Gh} {W : WX} {b : Expr} {pos : Pos}
end
end DL
end
section
/-! several except clauses, all with the same name -/
namespace DL
open PySem PySem.Spec L2
open PyProof.Rows hiding St
abbrev ClT := Value × (Addr → Value → Option Addr → TS)
inductive ClsA (X : Cx) (n : Str) : List ExceptHandler → List ClT → Prop
  | nil : ClsA X n [] []
  | cons {x : Str} {z : ClT} {b1 : Stmt} {su : List Stmt} {np p' : PySem.Pos} {hds : List ExceptHandler} {l : List ClT} : Names X x z.1 →
      (∀ (a : Addr) (oe : Obj) (cl : Value) (d : Option Addr) (pn : List (Addr × Obj)), Zc cl d oe → (∃ vs, oe.data = .fields vs) → PSs (X.suite a ((a, oe) :: pn)) (b1 :: su) (z.2 a cl d)) → ClsA X n hds l →
      ClsA X n (.ExceptHandler (some (.Name x np)) (some n) (b1 :: su) p' :: hds) (z :: l)
section
variable {X : Cx} {n : Str} {i : Nat} {body : List Stmt} {h1 : ExceptHandler} {hds : List ExceptHandler} {l : List ClT} {pos : PySem.Pos} {tb : WX → TS} {Wo : WX}
end
/-! ### over slots -/
section
variable {X : Cx} {G : Gh} {W : WX} {rm : RM} {tab : ExTab}
/-- a clause: its class, what its suite does -/
inductive ClsE (X : Cx) (G : Gh) (rm : RM) (tab : ExTab) (n : Str) : List ExceptHandler → List (Str × (Str → MS)) → Prop
  | nil : ClsE X G rm tab n [] []
  | cons {x : Str} {sm : Str → MS} {b1 : Stmt} {su : List Stmt} {np p' : PySem.Pos} {hds : List ExceptHandler} {l : List (Str × (Str → MS))} : (tab.lookup x).isSome = true → Gl X x → (x == ("__debug__" : Str)) = false →
      (∀ (a : Addr) (oe : Obj) (C : Addr) (c : Str) (pn : List (Addr × Obj)), HotB (X.suite a ((a, oe) :: pn)) a c C oe → DSs (X.suite a ((a, oe) :: pn)) ⟨G.m, G.H0, G.pr, some (a, c)⟩ W0 rm (b1 :: su) (sm c)) → ClsE X G rm tab n hds l →
      ClsE X G rm tab n (.ExceptHandler (some (.Name x np)) (some n) (b1 :: su) p' :: hds) ((x, sm) :: l)
end
end DL
end
section
/-! for x in xs, xs a list of the def's own that it changes afterwards -/
namespace DL
open PySem PySem.Spec L2
open PyProof.Rows hiding St
/-- slot i is guarded: it holds the list at a -/
def Gh.prot (G : Gh) (i : Nat) (a : Addr) : Gh := { G with pr := (i, a) :: G.pr }
section
variable {G : Gh} {σ : L2.St} {H : Hp} {ρ : DL.Env} {i : Nat} {a : Addr}
end
section
variable {X : Cx} {G : Gh} {W : WX} {rm : RM} {pos : PySem.Pos}
end
end DL
end
section
/-! slices as own lists; min with default; except without a name -/
namespace DL
open PySem PySem.Spec L2 PySem.SeqAt
open PyProof.Rows hiding St
/-! ### xs[a:b], a list of the def's own -/
section
variable {X : Cx} {G : Gh} {W : WX} {rm : RM} {e : Expr} {lo hi : Option Expr} {pos p2 : PySem.Pos}
/-! ### min(xs, default=d) -/
end
section
variable {prog : Program} {w : World} {A : Around} {E : Value → Shared → Prop} {s : Shared}
end
section
variable {X : Cx} {G : Gh} {W : WX} {rm : RM} {e : Expr} {es : List Expr} {ks : List Keyword} {p pos : PySem.Pos}
end
/-! ### except X, without a name -/
section
variable {X : Cx} {G : Gh} {W : WX} {rm : RM} {tab : ExTab}
end
end DL
end
section
/-! comprehensions over zip(xs, ys): each turn makes a new tuple -/
namespace DL
open PySem PySem.Spec L2
open PyProof.Rows hiding St
structure IterG (m : Md) (H : Hp) (J : It) (xs : List D) : Prop where
  stop : ∀ H', Stable H H' → J.stop xs.length H'
  go : ∀ i H', Stable H H' → i < xs.length → J.go i H'
  yld : ∀ i H1 v H2, Stable H H1 → i < xs.length → J.yld i H1 v H2 → Grow H1 H2 ∧ ∃ d, xs[i]? = some d ∧ Rep m H2 v d
section
variable {X : Cx} {G : Gh} {W : WX}
end
end DL
end
section
/-! a call without arguments -/
namespace DL
open PySem PySem.Spec L2
open PyProof.Rows hiding St
section
variable {X : Cx} {G : Gh} {W : WX} {pos p : Pos} {x : Str} {j k : Nat} {md : List Bool} {f : Fn}
end
end DL
end
namespace DL
open PySem PySem.Spec L2
open PyProof.Rows hiding St
structure Txt (K : PySem.W.Frag) (mg : Str → Option Value) : Prop where
  exs : Exs K mg tab
  n_ValueError : mg "ValueError" = none
  n_abs : mg "abs" = none
  n_all : mg "all" = none
  n_any : mg "any" = none
  n_isinstance : mg "isinstance" = none
  n_len : mg "len" = none
  n_list : mg "list" = none
  n_max : mg "max" = none
  n_min : mg "min" = none
  n_range : mg "range" = none
  n_set : mg "set" = none
  n_sorted : mg "sorted" = none
  n_tuple : mg "tuple" = none
  c_LETTERS : ∃ t, mg "LETTERS" = some (.str "abcdefghijklmnopqrstuvwxyz" t)
  c_MOST_KINDS : ∃ t, mg "MOST_KINDS" = some (.int 6 t)
  c_MOST_PIECES : ∃ t, mg "MOST_PIECES" = some (.int 10 t)
  c_MOST_REACH : ∃ t, mg "MOST_REACH" = some (.int 150 t)
  c_MOST_SIDE : ∃ t, mg "MOST_SIDE" = some (.int 5 t)
  c_MOST_STEP : ∃ t, mg "MOST_STEP" = some (.int 4 t)
  k_Yard : ClsD K mg "Yard" ["goals", "height", "holes", "kinds", "stuck", "width"]
/-! ### the mirrors -/
namespace Mi
def law_asked : Fn := fnM false 4 (seqM (ifM (boolM (op2 eqD (getM 3) (pureM (.int 0)))) (dropM (callM Mi.reach (mdM [false, false] (consA (getM 0) (consA (getM 1) (pureM [])))))) (skipM)) (seqM (ifM (boolM (op2 eqD (getM 3) (pureM (.int 1)))) (dropM (callM Mi.ranks (mdM [false, false] (consA (getM 0) (consA (getM 1) (pureM [])))))) (skipM)) (seqM (ifM (boolM (op2 eqD (getM 3) (pureM (.int 2)))) (dropM (callM Mi.win_move (mdM [false, false, false] (consA (getM 0) (consA (ocM (pureM (.k [] []))) (consA (getM 1) (pureM []))))))) (skipM)) (seqM (ifM (boolM (op2 eqD (getM 3) (pureM (.int 3)))) (dropM (callM Mi.stay (mdM [false, false, false] (consA (getM 0) (consA (getM 1) (consA (getM 2) (pureM []))))))) (skipM)) (seqM (ifM (boolM (op2 eqD (getM 3) (pureM (.int 4)))) (dropM (callM Mi.stay_holds (mdM [false, false, false, false] (consA (getM 0) (consA (getM 1) (consA (getM 2) (consA (lstM (sizeM (consM (tupM (consM (pureM (.int 2)) (consM (tupM (pureM [])) (pureM [])))) (pureM [])))) (pureM [])))))))) (skipM)) (seqM (ifM (boolM (op2 eqD (getM 3) (pureM (.int 5)))) (dropM (callM Mi.stay_move (mdM [false, false, false] (consA (getM 0) (consA (lstM (sizeM (pureM []))) (consA (getM 1) (pureM []))))))) (skipM)) (seqM (ifM (boolM (op2 eqD (getM 3) (pureM (.int 6)))) (dropM (callM Mi.ranks_hold (mdM [false, false] (consA (getM 0) (consA (ocM (dicCN [(getM 1, pureM .non)])) (pureM [])))))) (skipM)) (ifM (boolM (op2 eqD (getM 3) (pureM (.int 7)))) (dropM (callM Mi.stay_holds (mdM [false, false, false, false] (consA (getM 0) (consA (getM 1) (consA (getM 2) (consA (lstM (sizeM (pureM []))) (pureM [])))))))) (skipM)))))))))
def law_kind_own : Fn := fnM false 6 (seqM (tryM 4 (subT tab "YardError") (dropM (callM Mi.law_asked (mdM [false, false, false, false] (consA (getM 0) (consA (getM 1) (consA (getM 2) (consA (getM 3) (pureM [])))))))) (fun _ => seqM (setM 5 (lstM (sizeM (consM (exnM 4 (fun c => subT tab "BadPosition" c)) (consM (exnM 4 (fun c => subT tab "BadSide" c)) (consM (exnM 4 (fun c => subT tab "BadPaper" c)) (consM (exnM 4 (fun c => subT tab "TooMany" c)) (pureM [])))))))) (seqM (setM 5 (op2 addD (getM 5) (lstM (sizeM (consM (exnM 4 (fun c => subT tab "NoWin" c)) (consM (exnM 4 (fun c => subT tab "NoMove" c)) (pureM []))))))) (seqM (ifM (orM (notM (boolM (exnM 4 (fun c => (tab.lookup c).map fun _ => true)))) (boolM (op2 neD (mtV "list" cntD (getM 5) (consM (pureM (.bl true)) (pureM []))) (pureM (.int 1))))) (retM (pureM (.int 9))) (skipM)) (retM (mtV "list" idxD (getM 5) (consM (pureM (.bl true)) (pureM [])))))))) (retM (pureM (.int 8))))
def law : Fn := fnM false 9 (seqM (setM 1 (dicM [(pureM (.str "k"), tupM (consM (lstM (sizeM (consM (tupM (consM (pureM (.int 0)) (consM (pureM (.int 1)) (pureM [])))) (pureM [])))) (consM (lstM (sizeM (pureM []))) (consM (pureM (.int 1)) (pureM []))))), (pureM (.str "p"), tupM (consM (lstM (sizeM (pureM []))) (consM (lstM (sizeM (consM (tupM (consM (pureM (.int 1)) (consM (pureM (.int 0)) (pureM [])))) (pureM [])))) (consM (pureM (.int 0)) (pureM [])))))])) (seqM (setM 2 (makeM 6 (iniF 13 "Yard" Mi.Yard_ini) (consM (pureM (.int 2)) (consM (pureM (.int 3)) (consM (lstM (sizeM (consM (tupM (consM (pureM (.int 1)) (consM (pureM (.int 1)) (pureM [])))) (pureM [])))) (consM (getM 1) (consM (tupM (consM (lstM (sizeM (consM (tupM (consM (pureM (.int 0)) (consM (pureM (.int 2)) (pureM [])))) (pureM [])))) (consM (lstM (sizeM (pureM []))) (pureM [])))) (consM (pureM (.str "drawn")) (pureM []))))))))) (seqM (setM 3 (tupM (consM (tupM (consM (tupM (consM (pureM (.int 0)) (consM (pureM (.int 0)) (pureM [])))) (consM (pureM (.int 0)) (consM (pureM (.str "k")) (pureM []))))) (consM (tupM (consM (tupM (consM (pureM (.int 1)) (consM (pureM (.int 2)) (pureM [])))) (consM (pureM (.int 1)) (consM (pureM (.str "k")) (pureM []))))) (pureM []))))) (seqM (setM 4 (lstM (sizeM (consM (tupM (consM (negM (pureM (.int 1))) (consM (getM 3) (pureM [])))) (consM (tupM (consM (pureM (.int 0)) (consM (tupM (pureM [])) (pureM [])))) (consM (tupM (consM (pureM (.int 0)) (consM (tupM (consM (tupM (consM (tupM (consM (pureM (.int 0)) (consM (pureM (.int 0)) (pureM [])))) (consM (pureM (.int 0)) (consM (pureM (.str "p")) (pureM []))))) (pureM []))) (pureM [])))) (consM (tupM (consM (pureM (.int 0)) (consM (tupM (consM (tupM (consM (tupM (consM (pureM (.int 1)) (consM (pureM (.int 1)) (pureM [])))) (consM (pureM (.int 0)) (consM (pureM (.str "k")) (pureM []))))) (pureM []))) (pureM [])))) (consM (tupM (consM (pureM (.int 1)) (consM (rvM (getM 3)) (pureM [])))) (pureM []))))))))) (seqM (setM 5 (callM Mi.law_cell_at (mdM [false, false] (consA (getM 0) (consA (pureM (.int 0)) (pureM [])))))) (seqM (forD (rg1M (consM (pureM (.int 40)) (pureM []))) (tgN 6) (seqM (setM 7 (op2 modD (op2 addD (getM 5) (getM 6)) (pureM (.int 40)))) (ifM (boolM (op2 neD (callM Mi.law_kind_own (mdM [false, false, false, false] (consA (getM 2) (consA (op2 ixX (getM 4) (op2 divD (getM 7) (pureM (.int 8)))) (consA (op2 ixX (lstM (sizeM (consM (pureM (.int 0)) (consM (pureM (.int 2)) (pureM []))))) (op2 modD (getM 5) (pureM (.int 2)))) (consA (op2 modD (getM 7) (pureM (.int 8))) (pureM []))))))) (op2 ixX (lstM (sizeM (consM (pureM (.int 0)) (consM (pureM (.int 0)) (consM (pureM (.int 0)) (consM (pureM (.int 0)) (consM (pureM (.int 0)) (consM (pureM (.int 0)) (consM (pureM (.int 2)) (consM (pureM (.int 0)) (pureM []))))))))))) (op2 modD (getM 7) (pureM (.int 8)))))) (retM (pureM (.bl false))) (skipM)))) (seqM (forD (rg1M (consM (pureM (.int 8)) (pureM []))) (tgN 8) (seqM (ifM (boolM (op2 neD (callM Mi.law_kind_own (mdM [false, false, false, false] (consA (getM 2) (consA (tupM (consM (pureM (.int 0)) (consM (getM 3) (pureM [])))) (consA (op2 ixX (lstM (sizeM (consM (pureM (.int 2)) (consM (negM (pureM (.int 1))) (pureM []))))) (op2 modD (getM 5) (pureM (.int 2)))) (consA (getM 8) (pureM []))))))) (op2 ixX (lstM (sizeM (consM (pureM (.int 8)) (consM (pureM (.int 8)) (consM (pureM (.int 4)) (consM (pureM (.int 1)) (consM (pureM (.int 1)) (consM (pureM (.int 5)) (consM (pureM (.int 8)) (consM (pureM (.int 1)) (pureM []))))))))))) (getM 8)))) (retM (pureM (.bl false))) (skipM)) (ifM (boolM (op2 neD (callM Mi.law_kind_own (mdM [false, false, false, false] (consA (getM 2) (consA (tupM (consM (pureM (.int 0)) (consM (getM 3) (pureM [])))) (consA (op2 modD (getM 5) (pureM (.int 2))) (consA (getM 8) (pureM []))))))) (op2 ixX (lstM (sizeM (consM (pureM (.int 8)) (consM (pureM (.int 8)) (consM (pureM (.int 4)) (consM (pureM (.int 8)) (consM (pureM (.int 2)) (consM (pureM (.int 5)) (consM (pureM (.int 8)) (consM (pureM (.int 8)) (pureM []))))))))))) (getM 8)))) (retM (pureM (.bl false))) (skipM)))) (retM (andV (op2 isBD (callM Mi.ranks_hold (mdM [false, false] (consA (getM 2) (consA (ocM (pureM (.k [] []))) (pureM []))))) (pureM (.bl true))) (op2 isBD (callM Mi.stay_holds (mdM [false, false, false, false] (consA (getM 2) (consA (tupM (consM (pureM (.int 0)) (consM (getM 3) (pureM [])))) (consA (op2 modD (getM 5) (pureM (.int 2))) (consA (lstM (sizeM (pureM []))) (pureM []))))))) (pureM (.bl false))))))))))))
end Mi
section
variable {P : Program} {w : World} {K : PySem.W.Frag} {mg : Str → Option Value} {base : Heap}
theorem sc_Yard_on_board : FnScope N_Yard_on_board P_Yard_on_board (defScope s_Yard_on_board) := ⟨rfl, rfl, rfl, by decide +kernel, rfl, by decide +kernel, by decide +kernel⟩
theorem bi_Yard_on_board : BindsM "on_board" "Yard.on_board" s_Yard_on_board P_Yard_on_board := fun _ _ _ _ _ _ us hl => match us, hl with | [_, _], _ => rfl
theorem ok_Yard_on_board (T : Txt K mg) {fA : Addr} {fd : FuncData} (Dn : MethIn K mg "Yard" "on_board" "Yard.on_board" s_Yard_on_board fA fd) : DMe P w K mg base "Yard" "on_board" 1 [false, false] Mi.Yard_on_board :=
  dme_ok (k := 0) Dn sc_Yard_on_board rfl bi_Yard_on_board fun cdv A outer s H E H0 pr pf hr tk => by
    have sc := sc_Yard_on_board; have hu := hr.units; have hv := room_hv hr
    exact (dss_one (ds_ret (de_and (de_chain (op_leA hv) opd_leA (op_ltA hv) opd_ltA de_int (de_ix (ix_X hv) opd_ixX (de_var 1 rfl (.inl rfl)) de_int) (de_fld rfl T.k_Yard (by decide) (de_var 0 rfl (.inl rfl)))) (de_one (de_chain (op_leA hv) opd_leA (op_ltA hv) opd_ltA de_int (de_ix (ix_X hv) opd_ixX (de_var 1 rfl (.inl rfl)) de_int) (de_fld rfl T.k_Yard (by decide) (de_var 0 rfl (.inl rfl))))))))
theorem sc_Yard_is_free : FnScope N_Yard_is_free P_Yard_is_free (defScope s_Yard_is_free) := ⟨rfl, rfl, rfl, by decide +kernel, rfl, by decide +kernel, by decide +kernel⟩
theorem bi_Yard_is_free : BindsM "is_free" "Yard.is_free" s_Yard_is_free P_Yard_is_free := fun _ _ _ _ _ _ us hl => match us, hl with | [_, _], _ => rfl
theorem ok_Yard_is_free (T : Txt K mg) {fA : Addr} {fd : FuncData} (Dn : MethIn K mg "Yard" "is_free" "Yard.is_free" s_Yard_is_free fA fd) (C_Yard_on_board : DMe P w K mg base "Yard" "on_board" 1 [false, false] Mi.Yard_on_board) : DMe P w K mg base "Yard" "is_free" 2 [false, false] Mi.Yard_is_free :=
  dme_ok (k := 1) Dn sc_Yard_is_free rfl bi_Yard_is_free fun cdv A outer s H E H0 pr pf hr tk => by
    have sc := sc_Yard_is_free; have hu := hr.units; have hv := room_hv hr
    exact (dss_one (ds_ret (de_and (de_meth rfl rfl tk C_Yard_on_board hr (by decide) (de_var 0 rfl (.inl rfl)) (dg_d (de_var 1 rfl (.inl rfl)) dg_nil)) (de_one (de_cmp (op_ninX hv) opd_ninX (de_var 1 rfl (.inl rfl)) (de_fld rfl T.k_Yard (by decide) (de_var 0 rfl (.inl rfl))) (by with_unfolding_all rfl))))))
theorem sc_is_piece : FnScope N_is_piece P_is_piece (defScope s_is_piece) := ⟨rfl, rfl, rfl, by decide +kernel, rfl, by decide +kernel, by decide +kernel⟩
theorem bi_is_piece : BindsF "is_piece" s_is_piece P_is_piece := fun _ _ _ _ _ _ us hl => match us, hl with | [_, _], _ => rfl
theorem ok_is_piece (T : Txt K mg) {fA : Addr} {fd : FuncData} (Dn : DefIn K mg "is_piece" s_is_piece fA fd) (C_Yard_is_free : DMe P w K mg base "Yard" "is_free" 2 [false, false] Mi.Yard_is_free) : DFn P w K mg base "is_piece" 3 [false, false] .f Mi.is_piece :=
  dfn_ok (k := 2) Dn sc_is_piece rfl bi_is_piece fun cdv A outer s H E H0 pr pf hr tk => by
    have sc := sc_is_piece; have hu := hr.units; have hv := room_hv hr
    exact (dss_cons (ds_asg (de_var 1 rfl (.inl rfl)) (dg_tup rfl rfl (dgs_cons (dg_name 2 (pf 2 rfl) sc.nd rfl (.inl rfl)) (dgs_cons (dg_name 3 (pf 3 rfl) sc.nd rfl (.inl rfl)) (dgs_cons (dg_name 4 (pf 4 rfl) sc.nd rfl (.inl rfl)) dgs_nil)))))
      (dss_one (ds_ret (de_and (de_meth rfl rfl tk C_Yard_is_free hr (by decide) (de_var 0 rfl (.inl rfl)) (dg_d (de_var 2 rfl (.inl rfl)) dg_nil)) (de_and (de_cmp (op_inX hv) opd_inX (de_var 3 rfl (.inl rfl)) (de_tup (da_cons de_int (da_cons de_int da_nil))) (by with_unfolding_all rfl)) (de_one (de_cmp (op_inX hv) opd_inX (de_var 4 rfl (.inl rfl)) (de_fld rfl T.k_Yard (by decide) (de_var 0 rfl (.inl rfl))) (by with_unfolding_all rfl))))))))
theorem sc_crowns : FnScope N_crowns P_crowns (defScope s_crowns) := ⟨rfl, rfl, rfl, by decide +kernel, rfl, by decide +kernel, by decide +kernel⟩
theorem bi_crowns : BindsF "crowns" s_crowns P_crowns := fun _ _ _ _ _ _ us hl => match us, hl with | [_, _, _], _ => rfl
theorem ok_crowns (T : Txt K mg) {fA : Addr} {fd : FuncData} (Dn : DefIn K mg "crowns" s_crowns fA fd) : DFn P w K mg base "crowns" 1 [false, false, false] .f Mi.crowns :=
  dfn_ok (k := 0) Dn sc_crowns rfl bi_crowns fun cdv A outer s H E H0 pr pf hr tk => by
    have sc := sc_crowns; have hu := hr.units; have hv := room_hv hr
    exact (dss_one (ds_ret (de_fz (do_lc rfl sc.nd (di_gen rfl (de_var 1 rfl (.inl rfl))) (blkOk_by (N := N_crowns) (sc := defScope s_crowns) (own := [("cell", 3), ("other", 4), ("kind", 5)]) (by decide +kernel)) rfl rfl (fun _ _ _ _ _ _ => (dg_tup rfl rfl (dgs_cons (dg_name 3 (pf 3 rfl) sc.nd rfl (.inl rfl)) (dgs_cons (dg_name 4 (pf 4 rfl) sc.nd rfl (.inl rfl)) (dgs_cons (dg_name 5 (pf 5 rfl) sc.nd rfl (.inl rfl)) dgs_nil))))) (fun _ _ _ _ _ _ => (dts_one (dt_w (dw_and (dt_cmp (op_eqD hu) opd_eq (de_var 4 rfl (.inl rfl)) (de_var 2 rfl (.inr (.inl rfl))) (nomark _)) (dw_and1 (dt_cmp (op_eqD hu) opd_eq (de_ix (ix_X hv) opd_ixX (de_ix (ix_X hv) opd_ixX (de_fld rfl T.k_Yard (by decide) (de_var 0 rfl (.inr (.inl rfl)))) (de_var 5 rfl (.inl rfl))) de_int) de_int (nomark _))))))) (fun _ _ _ _ _ _ => (de_var 3 rfl (.inl rfl)))))))
theorem sc_is_position : FnScope N_is_position P_is_position (defScope s_is_position) := ⟨rfl, rfl, rfl, by decide +kernel, rfl, by decide +kernel, by decide +kernel⟩
theorem bi_is_position : BindsF "is_position" s_is_position P_is_position := fun _ _ _ _ _ _ us hl => match us, hl with | [_, _], _ => rfl
theorem ok_is_position (T : Txt K mg) {fA : Addr} {fd : FuncData} (Dn : DefIn K mg "is_position" s_is_position fA fd) (C_is_piece : DFn P w K mg base "is_piece" 3 [false, false] .f Mi.is_piece) (C_crowns : DFn P w K mg base "crowns" 1 [false, false, false] .f Mi.crowns) : DFn P w K mg base "is_position" 4 [false, false] .f Mi.is_position :=
  dfn_ok (k := 3) Dn sc_is_position rfl bi_is_position fun cdv A outer s H E H0 pr pf hr tk => by
    have sc := sc_is_position; have hu := hr.units; have hv := room_hv hr
    exact (dss_cons (ds_asg (de_var 1 rfl (.inl rfl)) (dg_tup rfl rfl (dgs_cons (dg_name 2 (pf 2 rfl) sc.nd rfl (.inl rfl)) (dgs_cons (dg_name 3 (pf 3 rfl) sc.nd rfl (.inr rfl)) dgs_nil))))
      (dss_cons (ds_if (dt_w (dw_or (dt_cmp (op_ninX hv) opd_ninX (de_var 2 rfl (.inl rfl)) (de_tup (da_cons de_int (da_cons de_int da_nil))) (by with_unfolding_all rfl)) (dw_or1 (dt_not (dt_chain (op_leA hv) opd_leA (op_leA hv) opd_leA de_int (de_callB (callR_or call_len call_lenF) (cd_len.or cd_lenK) rfl T.n_len (by decide +kernel) (da_cons (de_var 3 rfl (.inr (.inl rfl))) da_nil)) (de_globI rfl T.c_MOST_PIECES)))))) (dss_one (ds_ret de_bl)) dss_nil)
      (dss_cons (ds_if (dt_not (dt_val (de_callB (cr_all rfl) cd_all rfl T.n_all (by decide +kernel) (da_cons (de_fz (do_lc rfl sc.nd (di_gen rfl (de_var 3 rfl (.inr (.inl rfl)))) (blkOk_by (N := N_is_position) (sc := defScope s_is_position) (own := [("piece", 4)]) (by decide +kernel)) rfl rfl (fun _ _ _ _ _ _ => (dg_name 4 (pf 4 rfl) sc.nd rfl (.inl rfl))) (fun _ _ _ _ _ _ => dts_nil) (fun _ _ _ _ _ _ => (de_calls rfl rfl takes0 C_is_piece hr (by decide) rfl (dg_d (de_var 0 rfl (.inr (.inl rfl))) (dg_d (de_var 4 rfl (.inl rfl)) dg_nil)))))) da_nil)))) (dss_one (ds_ret de_bl)) dss_nil)
      (dss_cons (ds_if (dt_not (dt_val (de_callB (cr_all rfl) cd_all rfl T.n_all (by decide +kernel) (da_cons (de_fz (do_lc rfl sc.nd (by exact (di_range2 rfl T.n_range (da_cons de_int (da_cons (de_callB (callR_or call_len call_lenF) (cd_len.or cd_lenK) rfl T.n_len (by decide +kernel) (da_cons (de_var 3 rfl (.inr (.inl rfl))) da_nil)) da_nil)))) (blkOk_by (N := N_is_position) (sc := defScope s_is_position) (own := [("k", 5)]) (by decide +kernel)) rfl rfl (fun _ _ _ _ _ _ => (dg_name 5 (pf 5 rfl) sc.nd rfl (.inl rfl))) (fun _ _ _ _ _ _ => dts_nil) (fun _ _ _ _ _ _ => (de_cmp (op_ltA hv) opd_ltA (de_ix (ix_X hv) opd_ixX (de_ix (ix_X hv) opd_ixX (de_var 3 rfl (.inr (.inl rfl))) (de_op op_sub opd_sub (de_var 5 rfl (.inl rfl)) de_int)) de_int) (de_ix (ix_X hv) opd_ixX (de_ix (ix_X hv) opd_ixX (de_var 3 rfl (.inr (.inl rfl))) (de_var 5 rfl (.inl rfl))) de_int) (nomark _))))) da_nil)))) (dss_one (ds_ret de_bl)) dss_nil)
      (dss_one (ds_ret (de_cmp (op_gtA hv) opd_gtA (de_callB (callR_or call_len call_lenF) (cd_len.or cd_lenK) rfl T.n_len (by decide +kernel) (da_cons (de_op op_addU opd_add (de_calls rfl rfl tk C_crowns hr (by decide) rfl (dg_d (de_var 0 rfl (.inr (.inl rfl))) (dg_d (de_var 3 rfl (.inr (.inl rfl))) (dg_d de_int dg_nil)))) (de_calls rfl rfl tk C_crowns hr (by decide) rfl (dg_d (de_var 0 rfl (.inr (.inl rfl))) (dg_d (de_var 3 rfl (.inr (.inl rfl))) (dg_d de_int dg_nil))))) da_nil)) de_int (nomark _))))))))
theorem sc_check_position : FnScope N_check_position P_check_position (defScope s_check_position) := ⟨rfl, rfl, rfl, by decide +kernel, rfl, by decide +kernel, by decide +kernel⟩
theorem bi_check_position : BindsF "check_position" s_check_position P_check_position := fun _ _ _ _ _ _ us hl => match us, hl with | [_, _], _ => rfl
theorem ok_check_position (T : Txt K mg) {fA : Addr} {fd : FuncData} (Dn : DefIn K mg "check_position" s_check_position fA fd) (C_is_position : DFn P w K mg base "is_position" 4 [false, false] .f Mi.is_position) : DFn P w K mg base "check_position" 5 [false, false] .f Mi.check_position :=
  dfn_ok (k := 4) Dn sc_check_position rfl bi_check_position fun cdv A outer s H E H0 pr pf hr tk => by
    have sc := sc_check_position; have hu := hr.units; have hv := room_hv hr
    exact (dss_one (ds_if (dt_not (dt_val (de_calls rfl rfl tk C_is_position hr (by decide) rfl (dg_d (de_var 0 rfl (.inl rfl)) (dg_d (de_var 1 rfl (.inl rfl)) dg_nil))))) (dss_one (ds_raises rfl rfl tk (T.exs.exc "BadPosition" rfl) rfl)) dss_nil))
theorem sc_piece_at : FnScope N_piece_at P_piece_at (defScope s_piece_at) := ⟨rfl, rfl, rfl, by decide +kernel, rfl, by decide +kernel, by decide +kernel⟩
theorem bi_piece_at : BindsF "piece_at" s_piece_at P_piece_at := fun _ _ _ _ _ _ us hl => match us, hl with | [_, _], _ => rfl
theorem ok_piece_at (T : Txt K mg) {fA : Addr} {fd : FuncData} (Dn : DefIn K mg "piece_at" s_piece_at fA fd) : DFn P w K mg base "piece_at" 1 [false, false] .f Mi.piece_at :=
  dfn_ok (k := 0) Dn sc_piece_at rfl bi_piece_at fun cdv A outer s H E H0 pr pf hr tk => by
    have sc := sc_piece_at; have hu := hr.units; have hv := room_hv hr
    exact (dss_cons (ds_for (passes_of rfl) rfl (di_gen rfl (de_var 0 rfl (.inl rfl))) (dg_tup rfl rfl (dgs_cons (dg_name 2 (pf 2 rfl) sc.nd rfl (.inl rfl)) (dgs_cons (dg_name 3 (pf 3 rfl) sc.nd rfl (.inl rfl)) (dgs_cons (dg_name 4 (pf 4 rfl) sc.nd rfl (.inl rfl)) dgs_nil)))) (dss_one (ds_if (dt_cmp (op_eqD hu) opd_eq (de_var 2 rfl (.inl rfl)) (de_var 1 rfl (.inl rfl)) (nomark _)) (dss_one (ds_ret (de_tup (da_cons (de_var 3 rfl (.inl rfl)) (da_cons (de_var 4 rfl (.inl rfl)) da_nil))))) dss_nil)))
      (dss_one (ds_ret de_non)))
theorem sc_turned_step : FnScope N_turned_step P_turned_step (defScope s_turned_step) := ⟨rfl, rfl, rfl, by decide +kernel, rfl, by decide +kernel, by decide +kernel⟩
theorem bi_turned_step : BindsF "turned_step" s_turned_step P_turned_step := fun _ _ _ _ _ _ us hl => match us, hl with | [_, _], _ => rfl
theorem ok_turned_step (T : Txt K mg) {fA : Addr} {fd : FuncData} (Dn : DefIn K mg "turned_step" s_turned_step fA fd) : DFn P w K mg base "turned_step" 1 [false, false] .f Mi.turned_step :=
  dfn_ok (k := 0) Dn sc_turned_step rfl bi_turned_step fun cdv A outer s H E H0 pr pf hr tk => by
    have sc := sc_turned_step; have hu := hr.units; have hv := room_hv hr
    exact (dss_cons (ds_if (dt_cmp (op_eqD hu) opd_eq (de_var 1 rfl (.inl rfl)) de_int (nomark _)) (dss_one (ds_ret (de_var 0 rfl (.inl rfl)))) dss_nil)
      (dss_one (ds_ret (de_tup (da_cons (de_op op_sub opd_sub de_int (de_ix (ix_X hv) opd_ixX (de_var 0 rfl (.inl rfl)) de_int)) (da_cons (de_op op_sub opd_sub de_int (de_ix (ix_X hv) opd_ixX (de_var 0 rfl (.inl rfl)) de_int)) da_nil))))))
theorem sc_gone : FnScope N_gone P_gone (defScope s_gone) := ⟨rfl, rfl, rfl, by decide +kernel, rfl, by decide +kernel, by decide +kernel⟩
theorem bi_gone : BindsF "gone" s_gone P_gone := fun _ _ _ _ _ _ us hl => match us, hl with | [_, _, _], _ => rfl
theorem ok_gone (T : Txt K mg) {fA : Addr} {fd : FuncData} (Dn : DefIn K mg "gone" s_gone fA fd) : DFn P w K mg base "gone" 1 [false, false, false] .f Mi.gone :=
  dfn_ok (k := 0) Dn sc_gone rfl bi_gone fun cdv A outer s H E H0 pr pf hr tk => by
    have sc := sc_gone; have hu := hr.units; have hv := room_hv hr
    exact (dss_one (ds_ret (de_tup (da_cons (de_op op_addU opd_add (de_ix (ix_X hv) opd_ixX (de_var 0 rfl (.inl rfl)) de_int) (de_op op_mul opd_mul (de_var 2 rfl (.inl rfl)) (de_ix (ix_X hv) opd_ixX (de_var 1 rfl (.inl rfl)) de_int))) (da_cons (de_op op_addU opd_add (de_ix (ix_X hv) opd_ixX (de_var 0 rfl (.inl rfl)) de_int) (de_op op_mul opd_mul (de_var 2 rfl (.inl rfl)) (de_ix (ix_X hv) opd_ixX (de_var 1 rfl (.inl rfl)) de_int))) da_nil)))))
theorem sc_may_end : FnScope N_may_end P_may_end (defScope s_may_end) := ⟨rfl, rfl, rfl, by decide +kernel, rfl, by decide +kernel, by decide +kernel⟩
theorem bi_may_end : BindsF "may_end" s_may_end P_may_end := fun _ _ _ _ _ _ us hl => match us, hl with | [_, _, _, _], _ => rfl
theorem ok_may_end (T : Txt K mg) {fA : Addr} {fd : FuncData} (Dn : DefIn K mg "may_end" s_may_end fA fd) (C_piece_at : DFn P w K mg base "piece_at" 1 [false, false] .f Mi.piece_at) (C_Yard_is_free : DMe P w K mg base "Yard" "is_free" 2 [false, false] Mi.Yard_is_free) : DFn P w K mg base "may_end" 3 [false, false, false, false] .f Mi.may_end :=
  dfn_ok (k := 2) Dn sc_may_end rfl bi_may_end fun cdv A outer s H E H0 pr pf hr tk => by
    have sc := sc_may_end; have hu := hr.units; have hv := room_hv hr
    exact (dss_cons (ds_if (dt_not (dt_val (de_meth rfl rfl tk C_Yard_is_free hr (by decide) (de_var 0 rfl (.inl rfl)) (dg_d (de_var 3 rfl (.inl rfl)) dg_nil)))) (dss_one (ds_ret de_bl)) dss_nil)
      (dss_cons (ds_set 4 (pf 4 rfl) sc.nd rfl (.inl rfl) (de_calls rfl rfl tk C_piece_at hr (by decide) rfl (dg_d (de_var 1 rfl (.inl rfl)) (dg_d (de_var 3 rfl (.inl rfl)) dg_nil))))
      (dss_one (ds_ret (de_or (de_isN (de_var 4 rfl (.inl rfl))) (de_one (de_cmp (op_neD hu) opd_ne (de_ix (ix_X hv) opd_ixX (de_var 4 rfl (.inl rfl)) de_int) (de_var 2 rfl (.inl rfl)) (nomark _))))))))
theorem sc_ride : FnScope N_ride P_ride (defScope s_ride) := ⟨rfl, rfl, rfl, by decide +kernel, rfl, by decide +kernel, by decide +kernel⟩
theorem bi_ride : BindsF "ride" s_ride P_ride := fun _ _ _ _ _ _ us hl => match us, hl with | [_, _, _, _, _], _ => rfl
theorem ok_ride (T : Txt K mg) {fA : Addr} {fd : FuncData} (Dn : DefIn K mg "ride" s_ride fA fd) (C_piece_at : DFn P w K mg base "piece_at" 1 [false, false] .f Mi.piece_at) (C_gone : DFn P w K mg base "gone" 1 [false, false, false] .f Mi.gone) (C_may_end : DFn P w K mg base "may_end" 3 [false, false, false, false] .f Mi.may_end) : DFn P w K mg base "ride" 4 [false, false, false, false, false] .f Mi.ride :=
  dfn_ok (k := 3) Dn sc_ride rfl bi_ride fun cdv A outer s H E H0 pr pf hr tk => by
    have sc := sc_ride; have hu := hr.units; have hv := room_hv hr
    exact (dss_cons (ds_setO 5 (pf 5 rfl) sc.nd rfl (.inl rfl) (do_lst da_nil))
      (dss_cons (ds_set 6 (pf 6 rfl) sc.nd rfl (.inl rfl) de_int)
      (dss_cons (ds_while 100000 (passes_of rfl) (dt_val (de_calls rfl rfl tk C_may_end hr (by decide) rfl (dg_d (de_var 0 rfl (.inl rfl)) (dg_d (de_var 1 rfl (.inl rfl)) (dg_d (de_var 2 rfl (.inl rfl)) (dg_d (de_calls rfl rfl tk C_gone hr (by decide) rfl (dg_d (de_var 3 rfl (.inl rfl)) (dg_d (de_var 4 rfl (.inl rfl)) (dg_d (de_var 6 rfl (.inl rfl)) dg_nil)))) dg_nil)))))) (dss_cons (ds_expr (de_bmO (id := "append") (T := "list") 5 PySem.F.slot_list_append PySem.F.type_list_append mt_append mo_append (da_cons (de_var 6 rfl (.inl rfl)) da_nil) rfl (.inl rfl)))
      (dss_cons (ds_if (dt_notN (de_calls rfl rfl tk C_piece_at hr (by decide) rfl (dg_d (de_var 1 rfl (.inl rfl)) (dg_d (de_calls rfl rfl tk C_gone hr (by decide) rfl (dg_d (de_var 3 rfl (.inl rfl)) (dg_d (de_var 4 rfl (.inl rfl)) (dg_d (de_var 6 rfl (.inl rfl)) dg_nil)))) dg_nil)))) (dss_one (ds_ret (de_rd 5 (pf 5 rfl) rfl (.inl rfl)))) dss_nil)
      (dss_one (ds_set 6 (pf 6 rfl) sc.nd rfl (.inl rfl) (de_op op_addU opd_add (de_var 6 rfl (.inl rfl)) de_int))))))
      (dss_one (ds_ret (de_rd 5 (pf 5 rfl) rfl (.inl rfl)))))))
theorem sc_ways_of : FnScope N_ways_of P_ways_of (defScope s_ways_of) := ⟨rfl, rfl, rfl, by decide +kernel, rfl, by decide +kernel, by decide +kernel⟩
theorem bi_ways_of : BindsF "ways_of" s_ways_of P_ways_of := fun _ _ _ _ _ _ us hl => match us, hl with | [_, _, _], _ => rfl
theorem ok_ways_of (T : Txt K mg) {fA : Addr} {fd : FuncData} (Dn : DefIn K mg "ways_of" s_ways_of fA fd) (C_turned_step : DFn P w K mg base "turned_step" 1 [false, false] .f Mi.turned_step) (C_gone : DFn P w K mg base "gone" 1 [false, false, false] .f Mi.gone) (C_may_end : DFn P w K mg base "may_end" 3 [false, false, false, false] .f Mi.may_end) (C_ride : DFn P w K mg base "ride" 4 [false, false, false, false, false] .f Mi.ride) : DFn P w K mg base "ways_of" 5 [false, false, false] .f Mi.ways_of :=
  dfn_ok (k := 4) Dn sc_ways_of rfl bi_ways_of fun cdv A outer s H E H0 pr pf hr tk => by
    have sc := sc_ways_of; have hu := hr.units; have hv := room_hv hr
    exact (dss_cons (ds_asg (de_var 2 rfl (.inl rfl)) (dg_tup rfl rfl (dgs_cons (dg_name 3 (pf 3 rfl) sc.nd rfl (.inl rfl)) (dgs_cons (dg_name 4 (pf 4 rfl) sc.nd rfl (.inl rfl)) (dgs_cons (dg_name 5 (pf 5 rfl) sc.nd rfl (.inl rfl)) dgs_nil)))))
      (dss_cons (ds_asg (de_ix (ix_X hv) opd_ixX (de_fld rfl T.k_Yard (by decide) (de_var 0 rfl (.inl rfl))) (de_var 5 rfl (.inl rfl))) (dg_tup rfl rfl (dgs_cons (dg_name 6 (pf 6 rfl) sc.nd rfl (.inl rfl)) (dgs_cons (dg_name 7 (pf 7 rfl) sc.nd rfl (.inl rfl)) (dgs_cons (dg_name 8 (pf 8 rfl) sc.nd rfl (.inl rfl)) dgs_nil)))))
      (dss_cons (ds_setO 9 (pf 9 rfl) sc.nd rfl (.inl rfl) (do_lst da_nil))
      (dss_cons (ds_for (passes_of rfl) rfl (di_gen rfl (de_var 6 rfl (.inl rfl))) (dg_name 10 (pf 10 rfl) sc.nd rfl (.inl rfl)) (dss_cons (ds_set 10 (pf 10 rfl) sc.nd rfl (.inl rfl) (de_calls rfl rfl tk C_turned_step hr (by decide) rfl (dg_d (de_var 10 rfl (.inl rfl)) (dg_d (de_var 4 rfl (.inl rfl)) dg_nil))))
      (dss_one (ds_if (dt_val (de_calls rfl rfl tk C_may_end hr (by decide) rfl (dg_d (de_var 0 rfl (.inl rfl)) (dg_d (de_var 1 rfl (.inl rfl)) (dg_d (de_var 4 rfl (.inl rfl)) (dg_d (de_calls rfl rfl tk C_gone hr (by decide) rfl (dg_d (de_var 3 rfl (.inl rfl)) (dg_d (de_var 10 rfl (.inl rfl)) (dg_d de_int dg_nil)))) dg_nil)))))) (dss_one (ds_expr (de_bmO (id := "append") (T := "list") 9 PySem.F.slot_list_append PySem.F.type_list_append mt_append mo_append (da_cons (de_tup (da_cons (de_calls rfl rfl tk C_gone hr (by decide) rfl (dg_d (de_var 3 rfl (.inl rfl)) (dg_d (de_var 10 rfl (.inl rfl)) (dg_d de_int dg_nil)))) (da_cons (de_tup (da_cons de_str (da_cons (de_var 10 rfl (.inl rfl)) (da_cons de_int da_nil)))) da_nil))) da_nil) rfl (.inl rfl)))) dss_nil))))
      (dss_cons (ds_for (passes_of rfl) rfl (di_gen rfl (de_var 7 rfl (.inl rfl))) (dg_name 10 (pf 10 rfl) sc.nd rfl (.inl rfl)) (dss_cons (ds_set 10 (pf 10 rfl) sc.nd rfl (.inl rfl) (de_calls rfl rfl tk C_turned_step hr (by decide) rfl (dg_d (de_var 10 rfl (.inl rfl)) (dg_d (de_var 4 rfl (.inl rfl)) dg_nil))))
      (dss_one (ds_for (passes_of rfl) rfl (di_gen rfl (de_calls rfl rfl tk C_ride hr (by decide) rfl (dg_d (de_var 0 rfl (.inl rfl)) (dg_d (de_var 1 rfl (.inl rfl)) (dg_d (de_var 4 rfl (.inl rfl)) (dg_d (de_var 3 rfl (.inl rfl)) (dg_d (de_var 10 rfl (.inl rfl)) dg_nil))))))) (dg_name 11 (pf 11 rfl) sc.nd rfl (.inl rfl)) (dss_one (ds_expr (de_bmO (id := "append") (T := "list") 9 PySem.F.slot_list_append PySem.F.type_list_append mt_append mo_append (da_cons (de_tup (da_cons (de_calls rfl rfl tk C_gone hr (by decide) rfl (dg_d (de_var 3 rfl (.inl rfl)) (dg_d (de_var 10 rfl (.inl rfl)) (dg_d (de_var 11 rfl (.inl rfl)) dg_nil)))) (da_cons (de_tup (da_cons de_str (da_cons (de_var 10 rfl (.inl rfl)) (da_cons (de_var 11 rfl (.inl rfl)) da_nil)))) da_nil))) da_nil) rfl (.inl rfl))))))))
      (dss_one (ds_ret (de_rd 9 (pf 9 rfl) rfl (.inl rfl)))))))))
theorem sc_all_ways : FnScope N_all_ways P_all_ways (defScope s_all_ways) := ⟨rfl, rfl, rfl, by decide +kernel, rfl, by decide +kernel, by decide +kernel⟩
theorem bi_all_ways : BindsF "all_ways" s_all_ways P_all_ways := fun _ _ _ _ _ _ us hl => match us, hl with | [_, _], _ => rfl
theorem ok_all_ways (T : Txt K mg) {fA : Addr} {fd : FuncData} (Dn : DefIn K mg "all_ways" s_all_ways fA fd) (C_ways_of : DFn P w K mg base "ways_of" 5 [false, false, false] .f Mi.ways_of) : DFn P w K mg base "all_ways" 6 [false, false] .f Mi.all_ways :=
  dfn_ok (k := 5) Dn sc_all_ways rfl bi_all_ways fun cdv A outer s H E H0 pr pf hr tk => by
    have sc := sc_all_ways; have hu := hr.units; have hv := room_hv hr
    exact (dss_cons (ds_asg (de_var 1 rfl (.inl rfl)) (dg_tup rfl rfl (dgs_cons (dg_name 2 (pf 2 rfl) sc.nd rfl (.inl rfl)) (dgs_cons (dg_name 3 (pf 3 rfl) sc.nd rfl (.inl rfl)) dgs_nil))))
      (dss_cons (ds_setO 4 (pf 4 rfl) sc.nd rfl (.inl rfl) (do_lst da_nil))
      (dss_cons (ds_for (passes_of rfl) rfl (di_gen rfl (de_var 3 rfl (.inl rfl))) (dg_name 5 (pf 5 rfl) sc.nd rfl (.inr rfl)) (dss_one (ds_if (dt_cmp (op_eqD hu) opd_eq (de_ix (ix_X hv) opd_ixX (de_var 5 rfl (.inr (.inl rfl))) de_int) (de_var 2 rfl (.inl rfl)) (nomark _)) (dss_one (ds_expr (de_bmO (id := "extend") (T := "list") 4 PySem.F.slot_list_extend PySem.F.type_list_extend mt_extF mo_extend (da_cons (de_fz (do_lc rfl sc.nd (di_gen rfl (de_calls rfl rfl tk C_ways_of hr (by decide) rfl (dg_d (de_var 0 rfl (.inl rfl)) (dg_d (de_var 3 rfl (.inl rfl)) (dg_d (de_var 5 rfl (.inr (.inl rfl))) dg_nil))))) (blkOk_by (N := N_all_ways) (sc := defScope s_all_ways) (own := [("cell", 6), ("way", 7)]) (by decide +kernel)) rfl rfl (fun _ _ _ _ _ _ => (dg_tup rfl rfl (dgs_cons (dg_name 6 (pf 6 rfl) sc.nd rfl (.inl rfl)) (dgs_cons (dg_name 7 (pf 7 rfl) sc.nd rfl (.inl rfl)) dgs_nil)))) (fun _ _ _ _ _ _ => dts_nil) (fun _ _ _ _ _ _ => (de_tup (da_cons (de_tup (da_cons (de_ix (ix_X hv) opd_ixX (de_var 5 rfl (.inr (.inl rfl))) de_int) (da_cons (de_var 6 rfl (.inl rfl)) da_nil))) (da_cons (de_var 7 rfl (.inl rfl)) da_nil)))))) da_nil) rfl (.inl rfl)))) dss_nil)))
      (dss_one (ds_ret (de_rd 4 (pf 4 rfl) rfl (.inl rfl)))))))
theorem sc_on_goal : FnScope N_on_goal P_on_goal (defScope s_on_goal) := ⟨rfl, rfl, rfl, by decide +kernel, rfl, by decide +kernel, by decide +kernel⟩
theorem bi_on_goal : BindsF "on_goal" s_on_goal P_on_goal := fun _ _ _ _ _ _ us hl => match us, hl with | [_, _, _], _ => rfl
theorem ok_on_goal (T : Txt K mg) {fA : Addr} {fd : FuncData} (Dn : DefIn K mg "on_goal" s_on_goal fA fd) (C_crowns : DFn P w K mg base "crowns" 1 [false, false, false] .f Mi.crowns) : DFn P w K mg base "on_goal" 2 [false, false, false] .f Mi.on_goal :=
  dfn_ok (k := 1) Dn sc_on_goal rfl bi_on_goal fun cdv A outer s H E H0 pr pf hr tk => by
    have sc := sc_on_goal; have hu := hr.units; have hv := room_hv hr
    exact (dss_one (ds_ret (de_callB (cr_any rfl) cd_any rfl T.n_any (by decide +kernel) (da_cons (de_fz (do_lc rfl sc.nd (di_gen rfl (de_calls rfl rfl tk C_crowns hr (by decide) rfl (dg_d (de_var 0 rfl (.inr (.inl rfl))) (dg_d (de_var 1 rfl (.inl rfl)) (dg_d (de_var 2 rfl (.inr (.inl rfl))) dg_nil))))) (blkOk_by (N := N_on_goal) (sc := defScope s_on_goal) (own := [("cell", 3)]) (by decide +kernel)) rfl rfl (fun _ _ _ _ _ _ => (dg_name 3 (pf 3 rfl) sc.nd rfl (.inl rfl))) (fun _ _ _ _ _ _ => dts_nil) (fun _ _ _ _ _ _ => (de_cmp (op_inX hv) opd_inX (de_var 3 rfl (.inl rfl)) (de_ix (ix_X hv) opd_ixX (de_fld rfl T.k_Yard (by decide) (de_var 0 rfl (.inr (.inl rfl)))) (de_var 2 rfl (.inr (.inl rfl)))) (by with_unfolding_all rfl))))) da_nil))))
theorem sc_verdict_of : FnScope N_verdict_of P_verdict_of (defScope s_verdict_of) := ⟨rfl, rfl, rfl, by decide +kernel, rfl, by decide +kernel, by decide +kernel⟩
theorem bi_verdict_of : BindsF "verdict_of" s_verdict_of P_verdict_of := fun _ _ _ _ _ _ us hl => match us, hl with | [_, _], _ => rfl
theorem ok_verdict_of (T : Txt K mg) {fA : Addr} {fd : FuncData} (Dn : DefIn K mg "verdict_of" s_verdict_of fA fd) (C_crowns : DFn P w K mg base "crowns" 1 [false, false, false] .f Mi.crowns) (C_all_ways : DFn P w K mg base "all_ways" 6 [false, false] .f Mi.all_ways) (C_on_goal : DFn P w K mg base "on_goal" 2 [false, false, false] .f Mi.on_goal) : DFn P w K mg base "verdict_of" 7 [false, false] .f Mi.verdict_of :=
  dfn_ok (k := 6) Dn sc_verdict_of rfl bi_verdict_of fun cdv A outer s H E H0 pr pf hr tk => by
    have sc := sc_verdict_of; have hu := hr.units; have hv := room_hv hr
    exact (dss_cons (ds_asg (de_var 1 rfl (.inl rfl)) (dg_tup rfl rfl (dgs_cons (dg_name 2 (pf 2 rfl) sc.nd rfl (.inl rfl)) (dgs_cons (dg_name 3 (pf 3 rfl) sc.nd rfl (.inl rfl)) dgs_nil))))
      (dss_cons (ds_for (passes_of rfl) rfl (di_gen rfl (de_tup (da_cons de_int (da_cons de_int da_nil)))) (dg_name 4 (pf 4 rfl) sc.nd rfl (.inl rfl)) (dss_one (ds_if (dt_cmp (op_eqD hu) opd_eq (de_callB (callR_or call_len call_lenF) (cd_len.or cd_lenK) rfl T.n_len (by decide +kernel) (da_cons (de_calls rfl rfl tk C_crowns hr (by decide) rfl (dg_d (de_var 0 rfl (.inl rfl)) (dg_d (de_var 3 rfl (.inl rfl)) (dg_d (de_var 4 rfl (.inl rfl)) dg_nil)))) da_nil)) de_int (nomark _)) (dss_one (ds_ret (de_op op_sub opd_sub de_int (de_var 4 rfl (.inl rfl))))) dss_nil)))
      (dss_cons (ds_for (passes_of rfl) rfl (di_gen rfl (de_tup (da_cons (de_op op_sub opd_sub de_int (de_var 2 rfl (.inl rfl))) (da_cons (de_var 2 rfl (.inl rfl)) da_nil)))) (dg_name 4 (pf 4 rfl) sc.nd rfl (.inl rfl)) (dss_one (ds_if (dt_val (de_calls rfl rfl tk C_on_goal hr (by decide) rfl (dg_d (de_var 0 rfl (.inl rfl)) (dg_d (de_var 3 rfl (.inl rfl)) (dg_d (de_var 4 rfl (.inl rfl)) dg_nil))))) (dss_one (ds_ret (de_var 4 rfl (.inl rfl)))) dss_nil)))
      (dss_cons (ds_if (dt_cmp (op_eqD hu) opd_eq (de_callB (callR_or call_len call_lenF) (cd_len.or cd_lenK) rfl T.n_len (by decide +kernel) (da_cons (de_calls rfl rfl tk C_all_ways hr (by decide) rfl (dg_d (de_var 0 rfl (.inl rfl)) (dg_d (de_var 1 rfl (.inl rfl)) dg_nil))) da_nil)) de_int (nomark _)) (dss_one (ds_ret (de_if (dt_cmp (op_eqD hu) opd_eq (de_fld rfl T.k_Yard (by decide) (de_var 0 rfl (.inl rfl))) de_str (nomark _)) (de_op op_sub opd_sub de_int (de_var 2 rfl (.inl rfl))) de_str))) dss_nil)
      (dss_one (ds_ret de_non))))))
theorem sc_moves_of : FnScope N_moves_of P_moves_of (defScope s_moves_of) := ⟨rfl, rfl, rfl, by decide +kernel, rfl, by decide +kernel, by decide +kernel⟩
theorem bi_moves_of : BindsF "moves_of" s_moves_of P_moves_of := fun _ _ _ _ _ _ us hl => match us, hl with | [_, _], _ => rfl
theorem ok_moves_of (T : Txt K mg) {fA : Addr} {fd : FuncData} (Dn : DefIn K mg "moves_of" s_moves_of fA fd) (C_all_ways : DFn P w K mg base "all_ways" 6 [false, false] .f Mi.all_ways) (C_verdict_of : DFn P w K mg base "verdict_of" 7 [false, false] .f Mi.verdict_of) : DFn P w K mg base "moves_of" 8 [false, false] .o Mi.moves_of :=
  dfn_ok (k := 7) Dn sc_moves_of rfl bi_moves_of fun cdv A outer s H E H0 pr pf hr tk => by
    have sc := sc_moves_of; have hu := hr.units; have hv := room_hv hr
    exact (dss_cons (ds_if (dt_notN (de_calls rfl rfl tk C_verdict_of hr (by decide) rfl (dg_d (de_var 0 rfl (.inl rfl)) (dg_d (de_var 1 rfl (.inl rfl)) dg_nil)))) (dss_one (ds_retDX (dx_list (do_lst da_nil)))) dss_nil)
      (dss_one (ds_retDX (dx_list (do_sortSet rfl rfl hv rfl T.n_sorted rfl T.n_set (da_cons (de_fz (do_lc rfl sc.nd (di_gen rfl (de_calls rfl rfl tk C_all_ways hr (by decide) rfl (dg_d (de_var 0 rfl (.inl rfl)) (dg_d (de_var 1 rfl (.inl rfl)) dg_nil)))) (blkOk_by (N := N_moves_of) (sc := defScope s_moves_of) (own := [("move", 2), ("way", 3)]) (by decide +kernel)) rfl rfl (fun _ _ _ _ _ _ => (dg_tup rfl rfl (dgs_cons (dg_name 2 (pf 2 rfl) sc.nd rfl (.inl rfl)) (dgs_cons (dg_name 3 (pf 3 rfl) sc.nd rfl (.inl rfl)) dgs_nil)))) (fun _ _ _ _ _ _ => dts_nil) (fun _ _ _ _ _ _ => (de_var 2 rfl (.inl rfl))))) da_nil))))))
theorem sc_after_of : FnScope N_after_of P_after_of (defScope s_after_of) := ⟨rfl, rfl, rfl, by decide +kernel, rfl, by decide +kernel, by decide +kernel⟩
theorem bi_after_of : BindsF "after_of" s_after_of P_after_of := fun _ _ _ _ _ _ us hl => match us, hl with | [_, _], _ => rfl
theorem ok_after_of (T : Txt K mg) {fA : Addr} {fd : FuncData} (Dn : DefIn K mg "after_of" s_after_of fA fd) : DFn P w K mg base "after_of" 1 [false, false] .f Mi.after_of :=
  dfn_ok (k := 0) Dn sc_after_of rfl bi_after_of fun cdv A outer s H E H0 pr pf hr tk => by
    have sc := sc_after_of; have hu := hr.units; have hv := room_hv hr
    exact (dss_cons (ds_asg (de_var 0 rfl (.inl rfl)) (dg_tup rfl rfl (dgs_cons (dg_name 2 (pf 2 rfl) sc.nd rfl (.inl rfl)) (dgs_cons (dg_name 3 (pf 3 rfl) sc.nd rfl (.inl rfl)) dgs_nil))))
      (dss_cons (ds_setO 4 (pf 4 rfl) sc.nd rfl (.inl rfl) (do_lst da_nil))
      (dss_cons (ds_for (passes_of rfl) rfl (di_gen rfl (de_var 3 rfl (.inl rfl))) (dg_tup rfl rfl (dgs_cons (dg_name 5 (pf 5 rfl) sc.nd rfl (.inl rfl)) (dgs_cons (dg_name 6 (pf 6 rfl) sc.nd rfl (.inl rfl)) (dgs_cons (dg_name 7 (pf 7 rfl) sc.nd rfl (.inl rfl)) dgs_nil)))) (dss_one (ds_if (dt_cmp (op_eqD hu) opd_eq (de_var 5 rfl (.inl rfl)) (de_ix (ix_X hv) opd_ixX (de_var 1 rfl (.inl rfl)) de_int) (nomark _)) (dss_one (ds_expr (de_bmO (id := "append") (T := "list") 4 PySem.F.slot_list_append PySem.F.type_list_append mt_append mo_append (da_cons (de_tup (da_cons (de_ix (ix_X hv) opd_ixX (de_var 1 rfl (.inl rfl)) de_int) (da_cons (de_var 6 rfl (.inl rfl)) (da_cons (de_var 7 rfl (.inl rfl)) da_nil)))) da_nil) rfl (.inl rfl)))) (dss_one (ds_if (dt_cmp (op_neD hu) opd_ne (de_var 5 rfl (.inl rfl)) (de_ix (ix_X hv) opd_ixX (de_var 1 rfl (.inl rfl)) de_int) (nomark _)) (dss_one (ds_expr (de_bmO (id := "append") (T := "list") 4 PySem.F.slot_list_append PySem.F.type_list_append mt_append mo_append (da_cons (de_tup (da_cons (de_var 5 rfl (.inl rfl)) (da_cons (de_var 6 rfl (.inl rfl)) (da_cons (de_var 7 rfl (.inl rfl)) da_nil)))) da_nil) rfl (.inl rfl)))) dss_nil)))))
      (dss_one (ds_ret (de_tup (da_cons (de_op op_sub opd_sub de_int (de_var 2 rfl (.inl rfl))) (da_cons (de_callTy call_tuple_of cd_tup rfl T.n_tuple (by decide +kernel) (da_cons (de_fz (do_callB (X := _) (callR_or (cr_sortD rfl hv) (call_sortedD rfl)) (co_sortL.or co_sortK) (by exact rfl) T.n_sorted (by decide +kernel) (da_cons (de_rd 4 (pf 4 rfl) rfl (.inl rfl)) da_nil))) da_nil)) da_nil))))))))
theorem sc_next_ones : FnScope N_next_ones P_next_ones (defScope s_next_ones) := ⟨rfl, rfl, rfl, by decide +kernel, rfl, by decide +kernel, by decide +kernel⟩
theorem bi_next_ones : BindsF "next_ones" s_next_ones P_next_ones := fun _ _ _ _ _ _ us hl => match us, hl with | [_, _], _ => rfl
theorem ok_next_ones (T : Txt K mg) {fA : Addr} {fd : FuncData} (Dn : DefIn K mg "next_ones" s_next_ones fA fd) (C_moves_of : DFn P w K mg base "moves_of" 8 [false, false] .o Mi.moves_of) (C_after_of : DFn P w K mg base "after_of" 1 [false, false] .f Mi.after_of) : DFn P w K mg base "next_ones" 9 [false, false] .f Mi.next_ones :=
  dfn_ok (k := 8) Dn sc_next_ones rfl bi_next_ones fun cdv A outer s H E H0 pr pf hr tk => by
    have sc := sc_next_ones; have hu := hr.units; have hv := room_hv hr
    exact (dss_one (ds_ret (de_fz (do_lc rfl sc.nd (di_gen rfl (de_fzX (dx_calls rfl rfl tk C_moves_of hr (by decide) rfl (dg_d (de_var 0 rfl (.inl rfl)) (dg_d (de_var 1 rfl (.inr (.inl rfl))) dg_nil))))) (blkOk_by (N := N_next_ones) (sc := defScope s_next_ones) (own := [("move", 2)]) (by decide +kernel)) rfl rfl (fun _ _ _ _ _ _ => (dg_name 2 (pf 2 rfl) sc.nd rfl (.inl rfl))) (fun _ _ _ _ _ _ => dts_nil) (fun _ _ _ _ _ _ => (de_calls rfl rfl takes0 C_after_of hr (by decide) rfl (dg_d (de_var 1 rfl (.inr (.inl rfl))) (dg_d (de_var 2 rfl (.inl rfl)) dg_nil))))))))
theorem sc_reach_of : FnScope N_reach_of P_reach_of (defScope s_reach_of) := ⟨rfl, rfl, rfl, by decide +kernel, rfl, by decide +kernel, by decide +kernel⟩
theorem bi_reach_of : BindsF "reach_of" s_reach_of P_reach_of := fun _ _ _ _ _ _ us hl => match us, hl with | [_, _], _ => rfl
theorem ok_reach_of (T : Txt K mg) {fA : Addr} {fd : FuncData} (Dn : DefIn K mg "reach_of" s_reach_of fA fd) (C_next_ones : DFn P w K mg base "next_ones" 9 [false, false] .f Mi.next_ones) : DFn P w K mg base "reach_of" 10 [false, false] .f Mi.reach_of :=
  dfn_ok (k := 9) Dn sc_reach_of rfl bi_reach_of fun cdv A outer s H E H0 pr pf hr tk => by
    have sc := sc_reach_of; have hu := hr.units; have hv := room_hv hr
    exact (dss_cons (ds_setC 2 (pf 2 rfl) sc.nd rfl (.inl rfl) (dc_dictN rfl hv (.cons (fun _ => (de_var 1 rfl (.inl rfl))) (fun _ => (de_calls rfl rfl tk C_next_ones hr (by decide) rfl (dg_d (de_var 0 rfl (.inl rfl)) (dg_d (de_var 1 rfl (.inl rfl)) dg_nil)))) .nil) rfl rfl (by simp) (by decide)))
      (dss_cons (ds_setO 3 (pf 3 rfl) sc.nd rfl (.inl rfl) (do_lst (da_cons (de_var 1 rfl (.inl rfl)) da_nil)))
      (dss_cons (ds_while 100000 (passes_of rfl) (dt_lend fun _ => (dt_cmp (op_gtA hv) opd_gtA (de_callB (callR_or call_len call_lenF) (cd_len.or cd_lenK) rfl T.n_len (by decide +kernel) (da_cons (de_var 3 rfl (.inl rfl)) da_nil)) de_int (nomark _))) (dss_cons (ds_set 4 (pf 4 rfl) sc.nd rfl (.inl rfl) (de_bmO0 3 PySem.F.slot_list_pop PySem.F.type_list_pop mt_pop mo_pop rfl (.inl rfl)))
      (dss_one (ds_for (passes_of rfl) rfl (di_gen rfl (de_ixC 2 (ix_C hv) opc_ix (de_var 4 rfl (.inl rfl)) rfl (.inl rfl))) (dg_name 5 (pf 5 rfl) sc.nd rfl (.inl rfl)) (dss_one (ds_if (dt_lend fun _ => (dt_cmp (op_ninX hv) opd_ninX (de_var 5 rfl (.inl rfl)) (de_var 2 rfl (.inl rfl)) (by with_unfolding_all rfl))) (dss_cons (ds_if (dt_lend fun _ => (dt_cmp (op_eqD hu) opd_eq (de_callB (callR_or (callR_or call_len call_lenF) (call_lenN rfl)) ((cd_len.or cd_lenK).or cd_lenN) rfl T.n_len (by decide +kernel) (da_cons (de_var 2 rfl (.inl rfl)) da_nil)) (de_globI rfl T.c_MOST_REACH) (nomark _))) (dss_one (ds_raises rfl rfl tk (T.exs.exc "TooMany" rfl) rfl)) dss_nil)
      (dss_cons (ds_setG 2 (set_A hv) setc_A (de_calls rfl rfl tk C_next_ones hr (by decide) rfl (dg_d (de_var 0 rfl (.inl rfl)) (dg_d (de_var 5 rfl (.inl rfl)) dg_nil))) (de_var 5 rfl (.inl rfl)) rfl (.inl rfl))
      (dss_one (ds_expr (de_bmO (id := "append") (T := "list") 3 PySem.F.slot_list_append PySem.F.type_list_append mt_append mo_append (da_cons (de_var 5 rfl (.inl rfl)) da_nil) rfl (.inl rfl)))))) dss_nil))))))
      (dss_one (ds_ret (de_rd 2 (pf 2 rfl) rfl (.inl rfl)))))))
theorem sc_reach : FnScope N_reach P_reach (defScope s_reach) := ⟨rfl, rfl, rfl, by decide +kernel, rfl, by decide +kernel, by decide +kernel⟩
theorem bi_reach : BindsF "reach" s_reach P_reach := fun _ _ _ _ _ _ us hl => match us, hl with | [_, _], _ => rfl
theorem ok_reach (T : Txt K mg) {fA : Addr} {fd : FuncData} (Dn : DefIn K mg "reach" s_reach fA fd) (C_check_position : DFn P w K mg base "check_position" 5 [false, false] .f Mi.check_position) (C_reach_of : DFn P w K mg base "reach_of" 10 [false, false] .f Mi.reach_of) : DFn P w K mg base "reach" 11 [false, false] .o Mi.reach :=
  dfn_ok (k := 10) Dn sc_reach rfl bi_reach fun cdv A outer s H E H0 pr pf hr tk => by
    have sc := sc_reach; have hu := hr.units; have hv := room_hv hr
    exact (dss_cons (ds_expr (de_calls rfl rfl tk C_check_position hr (by decide) rfl (dg_d (de_var 0 rfl (.inl rfl)) (dg_d (de_var 1 rfl (.inl rfl)) dg_nil))))
      (dss_one (ds_retDX (dx_list (do_callB (X := _) (cr_sortM rfl rfl hv) co_sortM (by exact rfl) T.n_sorted (by decide +kernel) (da_cons (de_calls rfl rfl tk C_reach_of hr (by decide) rfl (dg_d (de_var 0 rfl (.inl rfl)) (dg_d (de_var 1 rfl (.inl rfl)) dg_nil))) da_nil))))))
theorem sc_rank_by : FnScope N_rank_by P_rank_by (defScope s_rank_by) := ⟨rfl, rfl, rfl, by decide +kernel, rfl, by decide +kernel, by decide +kernel⟩
theorem bi_rank_by : BindsF "rank_by" s_rank_by P_rank_by := fun _ _ _ _ _ _ us hl => match us, hl with | [_, _, _], _ => rfl
theorem ok_rank_by (T : Txt K mg) {fA : Addr} {fd : FuncData} (Dn : DefIn K mg "rank_by" s_rank_by fA fd) : DFn P w K mg base "rank_by" 1 [false, false, false] .f Mi.rank_by :=
  dfn_ok (k := 0) Dn sc_rank_by rfl bi_rank_by fun cdv A outer s H E H0 pr pf hr tk => by
    have sc := sc_rank_by; have hu := hr.units; have hv := room_hv hr
    exact (dss_cons (ds_if (dt_notN (de_var 0 rfl (.inl rfl))) (dss_one (ds_ret (de_if (dt_cmp (op_eqD hu) opd_eq (de_var 0 rfl (.inl rfl)) de_str (nomark _)) de_non (de_tup (da_cons (de_var 0 rfl (.inl rfl)) (da_cons de_int da_nil)))))) dss_nil)
      (dss_cons (ds_setLc 3 (pf 3 rfl) rfl sc.nd rfl rfl (sw_true rfl rfl rfl (by decide +kernel)) (di_gen rfl (de_var 2 rfl (.inl rfl))) (blkOk_by (N := N_rank_by) (sc := defScope s_rank_by) (own := [("rank", 4)]) (by decide +kernel)) rfl rfl (fun _ _ _ _ _ _ => (dg_name 4 (pf 4 rfl) sc.nd rfl (.inl rfl))) (fun _ _ _ _ _ _ => (dts_one (dt_w (dw_and (dt_notN (de_var 4 rfl (.inl rfl))) (dw_and1 (dt_cmp (op_eqD hu) opd_eq (de_ix (ix_X hv) opd_ixX (de_var 4 rfl (.inl rfl)) de_int) (de_var 1 rfl (.inr (.inl rfl))) (nomark _))))))) (fun _ _ _ _ _ _ => (de_ix (ix_X hv) opd_ixX (de_var 4 rfl (.inl rfl)) de_int)))
      (dss_cons (ds_if (dt_lend fun _ => (dt_cmp (op_gtA hv) opd_gtA (de_callB (callR_or call_len call_lenF) (cd_len.or cd_lenK) rfl T.n_len (by decide +kernel) (da_cons (de_var 3 rfl (.inl rfl)) da_nil)) de_int (nomark _))) (dss_one (ds_ret (de_tup (da_cons (de_var 1 rfl (.inr (.inl rfl))) (da_cons (de_op op_addU opd_add de_int (de_callB (callR_or (cr_min rfl) (cr_minA rfl rfl hv)) cd_minAD rfl T.n_min (by decide +kernel) (da_cons (de_rd 3 (pf 3 rfl) rfl (.inl rfl)) da_nil))) da_nil))))) dss_nil)
      (dss_cons (ds_if (dt_cmp (op_inX hv) opd_inX de_non (de_var 2 rfl (.inl rfl)) (by with_unfolding_all rfl)) (dss_one (ds_ret de_non)) dss_nil)
      (dss_one (ds_ret (de_tup (da_cons (de_op op_sub opd_sub de_int (de_var 1 rfl (.inr (.inl rfl)))) (da_cons (de_op op_addU opd_add de_int (de_callB (cr_max rfl) cd_maxL rfl T.n_max (by decide +kernel) (da_cons (de_fz (do_lc rfl sc.nd (di_gen rfl (de_var 2 rfl (.inl rfl))) (blkOk_by (N := N_rank_by) (sc := defScope s_rank_by) (own := [("rank", 4)]) (by decide +kernel)) rfl rfl (fun _ _ _ _ _ _ => (dg_name 4 (pf 4 rfl) sc.nd rfl (.inl rfl))) (fun _ _ _ _ _ _ => dts_nil) (fun _ _ _ _ _ _ => (de_ix (ix_X hv) opd_ixX (de_var 4 rfl (.inl rfl)) de_int)))) da_nil))) da_nil)))))))))
theorem sc_ranks_of : FnScope N_ranks_of P_ranks_of (defScope s_ranks_of) := ⟨rfl, rfl, rfl, by decide +kernel, rfl, by decide +kernel, by decide +kernel⟩
theorem bi_ranks_of : BindsF "ranks_of" s_ranks_of P_ranks_of := fun _ _ _ _ _ _ us hl => match us, hl with | [_, _], _ => rfl
theorem ok_ranks_of (T : Txt K mg) {fA : Addr} {fd : FuncData} (Dn : DefIn K mg "ranks_of" s_ranks_of fA fd) (C_verdict_of : DFn P w K mg base "verdict_of" 7 [false, false] .f Mi.verdict_of) (C_rank_by : DFn P w K mg base "rank_by" 1 [false, false, false] .f Mi.rank_by) : DFn P w K mg base "ranks_of" 8 [false, false] .o Mi.ranks_of :=
  dfn_ok (k := 7) Dn sc_ranks_of rfl bi_ranks_of fun cdv A outer s H E H0 pr pf hr tk => by
    have sc := sc_ranks_of; have hu := hr.units; have hv := room_hv hr
    exact (dss_cons (ds_setC 2 (pf 2 rfl) sc.nd rfl (.inr rfl) dc_new)
      (dss_cons (ds_setC 3 (pf 3 rfl) sc.nd rfl (.inl rfl) dc_new)
      (dss_cons (ds_for (passes_of rfl) rfl (di_genX rfl (de_var 1 rfl (.inl rfl))) (dg_name 4 (pf 4 rfl) sc.nd rfl (.inl rfl)) (dss_cons (ds_setG 3 (set_A hv) setc_A (de_calls rfl rfl tk C_verdict_of hr (by decide) rfl (dg_d (de_var 0 rfl (.inl rfl)) (dg_d (de_var 4 rfl (.inl rfl)) dg_nil))) (de_var 4 rfl (.inl rfl)) rfl (.inl rfl))
      (dss_one (ds_setG 2 (set_A hv) setc_A (de_calls rfl rfl tk C_rank_by hr (by decide) rfl (dg_d (de_ixC 3 (ix_C hv) opc_ix (de_var 4 rfl (.inl rfl)) rfl (.inl rfl)) (dg_d de_int (dg_d (de_fz (do_lst (da_cons de_non da_nil))) dg_nil)))) (de_var 4 rfl (.inl rfl)) rfl (.inr (.inl rfl))))))
      (dss_cons (ds_setLc 5 (pf 5 rfl) rfl sc.nd rfl rfl (sw_true rfl rfl rfl (by decide +kernel)) (di_genX rfl (de_var 1 rfl (.inl rfl))) (blkOk_by (N := N_ranks_of) (sc := defScope s_ranks_of) (own := [("position", 4)]) (by decide +kernel)) rfl rfl (fun _ _ _ _ _ _ => (dg_name 4 (pf 4 rfl) sc.nd rfl (.inl rfl))) (fun _ _ _ _ _ _ => (dts_one (dt_lend fun _ => (dt_isN (de_ix (ix_X hv) opd_ixX (de_var 2 rfl (.inr (.inl rfl))) (de_var 4 rfl (.inl rfl))))))) (fun _ _ _ _ _ _ => (de_var 4 rfl (.inl rfl))))
      (dss_cons (ds_set 6 (pf 6 rfl) sc.nd rfl (.inl rfl) de_int)
      (dss_cons (ds_set 7 (pf 7 rfl) sc.nd rfl (.inl rfl) de_bl)
      (dss_cons (ds_while 100000 (passes_of rfl) (dt_val (de_var 7 rfl (.inl rfl))) (dss_cons (ds_set 6 (pf 6 rfl) sc.nd rfl (.inl rfl) (de_op op_addU opd_add (de_var 6 rfl (.inl rfl)) de_int))
      (dss_cons (ds_setC 8 (pf 8 rfl) sc.nd rfl (.inr rfl) dc_new)
      (dss_cons (ds_for (passes_of rfl) rfl (di_genX rfl (de_rd 5 (pf 5 rfl) rfl (.inl rfl))) (dg_name 4 (pf 4 rfl) sc.nd rfl (.inl rfl)) (dss_cons (ds_set 9 (pf 9 rfl) sc.nd rfl (.inl rfl) (de_calls rfl rfl tk C_rank_by hr (by decide) rfl (dg_d (de_ixC 3 (ix_C hv) opc_ix (de_var 4 rfl (.inl rfl)) rfl (.inl rfl)) (dg_d (de_ix (ix_X hv) opd_ixX (de_var 4 rfl (.inl rfl)) de_int) (dg_d (de_fz (do_lc rfl sc.nd (di_gen rfl (de_ix (ix_X hv) opd_ixX (de_var 1 rfl (.inl rfl)) (de_var 4 rfl (.inl rfl)))) (blkOk_by (N := N_ranks_of) (sc := defScope s_ranks_of) (own := [("there", 10)]) (by decide +kernel)) rfl rfl (fun _ _ _ _ _ _ => (dg_name 10 (pf 10 rfl) sc.nd rfl (.inl rfl))) (fun _ _ _ _ _ _ => dts_nil) (fun _ _ _ _ _ _ => (de_ixC 2 (ix_C hv) opc_ix (de_var 10 rfl (.inl rfl)) rfl (.inr (.inl rfl)))))) dg_nil)))))
      (dss_one (ds_if (dt_w (dw_and (dt_notN (de_var 9 rfl (.inl rfl))) (dw_and1 (dt_cmp (op_eqD hu) opd_eq (de_ix (ix_X hv) opd_ixX (de_var 9 rfl (.inl rfl)) de_int) (de_var 6 rfl (.inl rfl)) (nomark _))))) (dss_one (ds_setG 8 (set_A hv) setc_A (de_var 9 rfl (.inl rfl)) (de_var 4 rfl (.inl rfl)) rfl (.inr (.inl rfl)))) dss_nil))))
      (dss_cons (ds_expr (de_updC 2 rfl hv (da_cons (de_rd 8 (pf 8 rfl) rfl (.inr (.inl rfl))) da_nil) rfl (.inr (.inl rfl))))
      (dss_cons (ds_setLc 5 (pf 5 rfl) rfl sc.nd rfl rfl (sw_true rfl rfl rfl (by decide +kernel)) (di_genX rfl (de_rd 5 (pf 5 rfl) rfl (.inl rfl))) (blkOk_by (N := N_ranks_of) (sc := defScope s_ranks_of) (own := [("position", 4)]) (by decide +kernel)) rfl rfl (fun _ _ _ _ _ _ => (dg_name 4 (pf 4 rfl) sc.nd rfl (.inl rfl))) (fun _ _ _ _ _ _ => (dts_one (dt_lend fun _ => (dt_cmp (op_ninX hv) opd_ninX (de_var 4 rfl (.inl rfl)) (de_var 8 rfl (.inr (.inl rfl))) (by with_unfolding_all rfl))))) (fun _ _ _ _ _ _ => (de_var 4 rfl (.inl rfl))))
      (dss_one (ds_set 7 (pf 7 rfl) sc.nd rfl (.inl rfl) (de_lend fun _ => (de_cmp (op_gtA hv) opd_gtA (de_callB (callR_or (callR_or call_len call_lenF) (call_lenN rfl)) ((cd_len.or cd_lenK).or cd_lenN) rfl T.n_len (by decide +kernel) (da_cons (de_var 8 rfl (.inr (.inl rfl))) da_nil)) de_int (nomark _)))))))))))
      (dss_one (ds_retDX (dx_give 2 (pf 2 rfl) rfl (.inr (.inl rfl))))))))))))
theorem sc_ranks : FnScope N_ranks P_ranks (defScope s_ranks) := ⟨rfl, rfl, rfl, by decide +kernel, rfl, by decide +kernel, by decide +kernel⟩
theorem bi_ranks : BindsF "ranks" s_ranks P_ranks := fun _ _ _ _ _ _ us hl => match us, hl with | [_, _], _ => rfl
theorem ok_ranks (T : Txt K mg) {fA : Addr} {fd : FuncData} (Dn : DefIn K mg "ranks" s_ranks fA fd) (C_check_position : DFn P w K mg base "check_position" 5 [false, false] .f Mi.check_position) (C_reach_of : DFn P w K mg base "reach_of" 10 [false, false] .f Mi.reach_of) (C_ranks_of : DFn P w K mg base "ranks_of" 8 [false, false] .o Mi.ranks_of) : DFn P w K mg base "ranks" 11 [false, false] .o Mi.ranks :=
  dfn_ok (k := 10) Dn sc_ranks rfl bi_ranks fun cdv A outer s H E H0 pr pf hr tk => by
    have sc := sc_ranks; have hu := hr.units; have hv := room_hv hr
    exact (dss_cons (ds_expr (de_calls rfl rfl tk C_check_position hr (by decide) rfl (dg_d (de_var 0 rfl (.inl rfl)) (dg_d (de_var 1 rfl (.inl rfl)) dg_nil))))
      (dss_one (ds_retDX (dx_calls rfl rfl tk C_ranks_of hr (by decide) rfl (dg_d (de_var 0 rfl (.inl rfl)) (dg_d (de_calls rfl rfl tk C_reach_of hr (by decide) rfl (dg_d (de_var 0 rfl (.inl rfl)) (dg_d (de_var 1 rfl (.inl rfl)) dg_nil))) dg_nil))))))
theorem sc_is_rank : FnScope N_is_rank P_is_rank (defScope s_is_rank) := ⟨rfl, rfl, rfl, by decide +kernel, rfl, by decide +kernel, by decide +kernel⟩
theorem bi_is_rank : BindsF "is_rank" s_is_rank P_is_rank := fun _ _ _ _ _ _ us hl => match us, hl with | [_], _ => rfl
theorem ok_is_rank (T : Txt K mg) {fA : Addr} {fd : FuncData} (Dn : DefIn K mg "is_rank" s_is_rank fA fd) : DFn P w K mg base "is_rank" 1 [false] .f Mi.is_rank :=
  dfn_ok (k := 0) Dn sc_is_rank rfl bi_is_rank fun cdv A outer s H E H0 pr pf hr tk => by
    have sc := sc_is_rank; have hu := hr.units; have hv := room_hv hr
    exact (dss_one (ds_ret (de_or (de_isN (de_var 0 rfl (.inl rfl))) (de_one (de_and (de_cmp (op_inX hv) opd_inX (de_ix (ix_X hv) opd_ixX (de_var 0 rfl (.inl rfl)) de_int) (de_tup (da_cons de_int (da_cons de_int da_nil))) (by with_unfolding_all rfl)) (de_one (de_cmp (op_geA hv) opd_geA (de_ix (ix_X hv) opd_ixX (de_var 0 rfl (.inl rfl)) de_int) de_int (nomark _))))))))
theorem sc_check_paper : FnScope N_check_paper P_check_paper (defScope s_check_paper) := ⟨rfl, rfl, rfl, by decide +kernel, rfl, by decide +kernel, by decide +kernel⟩
theorem bi_check_paper : BindsF "check_paper" s_check_paper P_check_paper := fun _ _ _ _ _ _ us hl => match us, hl with | [_, _], _ => rfl
theorem ok_check_paper (T : Txt K mg) {fA : Addr} {fd : FuncData} (Dn : DefIn K mg "check_paper" s_check_paper fA fd) (C_is_position : DFn P w K mg base "is_position" 4 [false, false] .f Mi.is_position) (C_is_rank : DFn P w K mg base "is_rank" 1 [false] .f Mi.is_rank) : DFn P w K mg base "check_paper" 5 [false, false] .f Mi.check_paper :=
  dfn_ok (k := 4) Dn sc_check_paper rfl bi_check_paper fun cdv A outer s H E H0 pr pf hr tk => by
    have sc := sc_check_paper; have hu := hr.units; have hv := room_hv hr
    exact (dss_one (ds_for (passes_of rfl) rfl (di_genX rfl (de_var 1 rfl (.inl rfl))) (dg_name 2 (pf 2 rfl) sc.nd rfl (.inl rfl)) (dss_one (ds_if (dt_w (dw_or (dt_not (dt_val (de_calls rfl rfl tk C_is_position hr (by decide) rfl (dg_d (de_var 0 rfl (.inl rfl)) (dg_d (de_var 2 rfl (.inl rfl)) dg_nil))))) (dw_or1 (dt_not (dt_val (de_calls rfl rfl tk C_is_rank hr (by decide) rfl (dg_d (de_ix (ix_X hv) opd_ixX (de_var 1 rfl (.inl rfl)) (de_var 2 rfl (.inl rfl))) dg_nil))))))) (dss_one (ds_raises rfl rfl tk (T.exs.exc "BadPaper" rfl) rfl)) dss_nil))))
theorem sc_ranks_hold : FnScope N_ranks_hold P_ranks_hold (defScope s_ranks_hold) := ⟨rfl, rfl, rfl, by decide +kernel, rfl, by decide +kernel, by decide +kernel⟩
theorem bi_ranks_hold : BindsF "ranks_hold" s_ranks_hold P_ranks_hold := fun _ _ _ _ _ _ us hl => match us, hl with | [_, _], _ => rfl
theorem ok_ranks_hold (T : Txt K mg) {fA : Addr} {fd : FuncData} (Dn : DefIn K mg "ranks_hold" s_ranks_hold fA fd) (C_verdict_of : DFn P w K mg base "verdict_of" 7 [false, false] .f Mi.verdict_of) (C_next_ones : DFn P w K mg base "next_ones" 9 [false, false] .f Mi.next_ones) (C_rank_by : DFn P w K mg base "rank_by" 1 [false, false, false] .f Mi.rank_by) (C_check_paper : DFn P w K mg base "check_paper" 5 [false, false] .f Mi.check_paper) : DFn P w K mg base "ranks_hold" 10 [false, false] .f Mi.ranks_hold :=
  dfn_ok (k := 9) Dn sc_ranks_hold rfl bi_ranks_hold fun cdv A outer s H E H0 pr pf hr tk => by
    have sc := sc_ranks_hold; have hu := hr.units; have hv := room_hv hr
    exact (dss_cons (ds_expr (de_calls rfl rfl tk C_check_paper hr (by decide) rfl (dg_d (de_var 0 rfl (.inl rfl)) (dg_d (de_var 1 rfl (.inr (.inl rfl))) dg_nil))))
      (dss_cons (ds_for (passes_of rfl) rfl (di_genX rfl (de_var 1 rfl (.inr (.inl rfl)))) (dg_name 2 (pf 2 rfl) sc.nd rfl (.inl rfl)) (dss_cons (ds_set 3 (pf 3 rfl) sc.nd rfl (.inl rfl) (de_calls rfl rfl tk C_next_ones hr (by decide) rfl (dg_d (de_var 0 rfl (.inl rfl)) (dg_d (de_var 2 rfl (.inl rfl)) dg_nil))))
      (dss_cons (ds_if (dt_not (dt_val (de_callB (cr_all rfl) cd_all rfl T.n_all (by decide +kernel) (da_cons (de_fz (do_lc rfl sc.nd (di_genX rfl (de_var 3 rfl (.inl rfl))) (blkOk_by (N := N_ranks_hold) (sc := defScope s_ranks_hold) (own := [("there", 5)]) (by decide +kernel)) rfl rfl (fun _ _ _ _ _ _ => (dg_name 5 (pf 5 rfl) sc.nd rfl (.inl rfl))) (fun _ _ _ _ _ _ => dts_nil) (fun _ _ _ _ _ _ => (de_cmp (op_inX hv) opd_inX (de_var 5 rfl (.inl rfl)) (de_var 1 rfl (.inr (.inl rfl))) (by with_unfolding_all rfl))))) da_nil)))) (dss_one (ds_ret de_bl)) dss_nil)
      (dss_cons (ds_setLc 4 (pf 4 rfl) rfl sc.nd rfl rfl (sw_true rfl rfl rfl (by decide +kernel)) (di_genX rfl (de_var 3 rfl (.inl rfl))) (blkOk_by (N := N_ranks_hold) (sc := defScope s_ranks_hold) (own := [("there", 5)]) (by decide +kernel)) rfl rfl (fun _ _ _ _ _ _ => (dg_name 5 (pf 5 rfl) sc.nd rfl (.inl rfl))) (fun _ _ _ _ _ _ => dts_nil) (fun _ _ _ _ _ _ => (de_ix (ix_X hv) opd_ixX (de_var 1 rfl (.inr (.inl rfl))) (de_var 5 rfl (.inl rfl)))))
      (dss_one (ds_if (dt_lend fun _ => (dt_cmp (op_neD hu) opd_ne (de_calls rfl rfl tk C_rank_by hr (by decide) rfl (dg_d (de_calls rfl rfl tk C_verdict_of hr (by decide) rfl (dg_d (de_var 0 rfl (.inl rfl)) (dg_d (de_var 2 rfl (.inl rfl)) dg_nil))) (dg_d (de_ix (ix_X hv) opd_ixX (de_var 2 rfl (.inl rfl)) de_int) (dg_d (de_var 4 rfl (.inl rfl)) dg_nil)))) (de_ix (ix_X hv) opd_ixX (de_var 1 rfl (.inr (.inl rfl))) (de_var 2 rfl (.inl rfl))) (nomark _))) (dss_one (ds_ret de_bl)) dss_nil))))))
      (dss_one (ds_ret de_bl))))
theorem sc_win_move : FnScope N_win_move P_win_move (defScope s_win_move) := ⟨rfl, rfl, rfl, by decide +kernel, rfl, by decide +kernel, by decide +kernel⟩
theorem bi_win_move : BindsF "win_move" s_win_move P_win_move := fun _ _ _ _ _ _ us hl => match us, hl with | [_, _, _], _ => rfl
theorem ok_win_move (T : Txt K mg) {fA : Addr} {fd : FuncData} (Dn : DefIn K mg "win_move" s_win_move fA fd) (C_check_position : DFn P w K mg base "check_position" 5 [false, false] .f Mi.check_position) (C_moves_of : DFn P w K mg base "moves_of" 8 [false, false] .o Mi.moves_of) (C_after_of : DFn P w K mg base "after_of" 1 [false, false] .f Mi.after_of) : DFn P w K mg base "win_move" 9 [false, false, false] .f Mi.win_move :=
  dfn_ok (k := 8) Dn sc_win_move rfl bi_win_move fun cdv A outer s H E H0 pr pf hr tk => by
    have sc := sc_win_move; have hu := hr.units; have hv := room_hv hr
    exact (dss_cons (ds_expr (de_calls rfl rfl tk C_check_position hr (by decide) rfl (dg_d (de_var 0 rfl (.inl rfl)) (dg_d (de_var 2 rfl (.inl rfl)) dg_nil))))
      (dss_cons (ds_set 3 (pf 3 rfl) sc.nd rfl (.inl rfl) (de_getF rfl hv (de_var 1 rfl (.inl rfl)) (da_cons (de_var 2 rfl (.inl rfl)) (da_cons de_non da_nil))))
      (dss_cons (ds_if (dt_w (dw_or (dt_isN (de_var 3 rfl (.inl rfl))) (dw_or (dt_cmp (op_neD hu) opd_ne (de_ix (ix_X hv) opd_ixX (de_var 3 rfl (.inl rfl)) de_int) (de_ix (ix_X hv) opd_ixX (de_var 2 rfl (.inl rfl)) de_int) (nomark _)) (dw_or1 (dt_cmp (op_eqD hu) opd_eq (de_ix (ix_X hv) opd_ixX (de_var 3 rfl (.inl rfl)) de_int) de_int (nomark _)))))) (dss_one (ds_raises rfl rfl tk (T.exs.exc "NoWin" rfl) rfl)) dss_nil)
      (dss_cons (ds_for (passes_of rfl) rfl (di_gen rfl (de_fzX (dx_calls rfl rfl tk C_moves_of hr (by decide) rfl (dg_d (de_var 0 rfl (.inl rfl)) (dg_d (de_var 2 rfl (.inl rfl)) dg_nil))))) (dg_name 4 (pf 4 rfl) sc.nd rfl (.inl rfl)) (dss_one (ds_if (dt_cmp (op_eqD hu) opd_eq (de_ix (ix_X hv) opd_ixX (de_var 1 rfl (.inl rfl)) (de_calls rfl rfl tk C_after_of hr (by decide) rfl (dg_d (de_var 2 rfl (.inl rfl)) (dg_d (de_var 4 rfl (.inl rfl)) dg_nil)))) (de_tup (da_cons (de_ix (ix_X hv) opd_ixX (de_var 3 rfl (.inl rfl)) de_int) (da_cons (de_op op_sub opd_sub (de_ix (ix_X hv) opd_ixX (de_var 3 rfl (.inl rfl)) de_int) de_int) da_nil))) (nomark _)) (dss_one (ds_ret (de_var 4 rfl (.inl rfl)))) dss_nil)))
      (dss_one (ds_raises rfl rfl tk (T.exs.exc "NoWin" rfl) rfl))))))
theorem sc_check_side : FnScope N_check_side P_check_side (defScope s_check_side) := ⟨rfl, rfl, rfl, by decide +kernel, rfl, by decide +kernel, by decide +kernel⟩
theorem bi_check_side : BindsF "check_side" s_check_side P_check_side := fun _ _ _ _ _ _ us hl => match us, hl with | [_], _ => rfl
theorem ok_check_side (T : Txt K mg) {fA : Addr} {fd : FuncData} (Dn : DefIn K mg "check_side" s_check_side fA fd) : DFn P w K mg base "check_side" 1 [false] .f Mi.check_side :=
  dfn_ok (k := 0) Dn sc_check_side rfl bi_check_side fun cdv A outer s H E H0 pr pf hr tk => by
    have sc := sc_check_side; have hu := hr.units; have hv := room_hv hr
    exact (dss_one (ds_if (dt_cmp (op_ninX hv) opd_ninX (de_var 0 rfl (.inl rfl)) (de_tup (da_cons de_int (da_cons de_int da_nil))) (by with_unfolding_all rfl)) (dss_one (ds_raises rfl rfl tk (T.exs.exc "BadSide" rfl) rfl)) dss_nil))
theorem sc_stay : FnScope N_stay P_stay (defScope s_stay) := ⟨rfl, rfl, rfl, by decide +kernel, rfl, by decide +kernel, by decide +kernel⟩
theorem bi_stay : BindsF "stay" s_stay P_stay := fun _ _ _ _ _ _ us hl => match us, hl with | [_, _, _], _ => rfl
theorem ok_stay (T : Txt K mg) {fA : Addr} {fd : FuncData} (Dn : DefIn K mg "stay" s_stay fA fd) (C_check_position : DFn P w K mg base "check_position" 5 [false, false] .f Mi.check_position) (C_reach_of : DFn P w K mg base "reach_of" 10 [false, false] .f Mi.reach_of) (C_ranks_of : DFn P w K mg base "ranks_of" 8 [false, false] .o Mi.ranks_of) (C_check_side : DFn P w K mg base "check_side" 1 [false] .f Mi.check_side) : DFn P w K mg base "stay" 11 [false, false, false] .o Mi.stay :=
  dfn_ok (k := 10) Dn sc_stay rfl bi_stay fun cdv A outer s H E H0 pr pf hr tk => by
    have sc := sc_stay; have hu := hr.units; have hv := room_hv hr
    exact (dss_cons (ds_expr (de_calls rfl rfl tk C_check_position hr (by decide) rfl (dg_d (de_var 0 rfl (.inl rfl)) (dg_d (de_var 1 rfl (.inl rfl)) dg_nil))))
      (dss_cons (ds_expr (de_calls rfl rfl tk C_check_side hr (by decide) rfl (dg_d (de_var 2 rfl (.inr (.inl rfl))) dg_nil)))
      (dss_cons (ds_set 3 (pf 3 rfl) sc.nd rfl (.inr rfl) (de_fzX (dx_calls rfl rfl tk C_ranks_of hr (by decide) rfl (dg_d (de_var 0 rfl (.inl rfl)) (dg_d (de_calls rfl rfl tk C_reach_of hr (by decide) rfl (dg_d (de_var 0 rfl (.inl rfl)) (dg_d (de_var 1 rfl (.inl rfl)) dg_nil))) dg_nil)))))
      (dss_cons (ds_setLc 4 (pf 4 rfl) rfl sc.nd rfl rfl (sw_true rfl rfl rfl (by decide +kernel)) (di_genX rfl (de_var 3 rfl (.inr (.inl rfl)))) (blkOk_by (N := N_stay) (sc := defScope s_stay) (own := [("there", 5)]) (by decide +kernel)) rfl rfl (fun _ _ _ _ _ _ => (dg_name 5 (pf 5 rfl) sc.nd rfl (.inl rfl))) (fun _ _ _ _ _ _ => (dts_one (dt_w (dw_or (dt_isN (de_ix (ix_X hv) opd_ixX (de_var 3 rfl (.inr (.inl rfl))) (de_var 5 rfl (.inl rfl)))) (dw_or1 (dt_cmp (op_eqD hu) opd_eq (de_ix (ix_X hv) opd_ixX (de_ix (ix_X hv) opd_ixX (de_var 3 rfl (.inr (.inl rfl))) (de_var 5 rfl (.inl rfl))) de_int) (de_var 2 rfl (.inr (.inl rfl))) (nomark _))))))) (fun _ _ _ _ _ _ => (de_var 5 rfl (.inl rfl))))
      (dss_cons (ds_if (dt_lend fun _ => (dt_cmp (op_ninX hv) opd_ninX (de_var 1 rfl (.inl rfl)) (de_var 4 rfl (.inl rfl)) (by with_unfolding_all rfl))) (dss_one (ds_retX de_non)) dss_nil)
      (dss_one (ds_retDX (dx_list (do_callB (X := _) (callR_or (cr_sortD rfl hv) (call_sortedD rfl)) (co_sortL.or co_sortK) (by exact rfl) T.n_sorted (by decide +kernel) (da_cons (de_rd 4 (pf 4 rfl) rfl (.inl rfl)) da_nil))))))))))
theorem sc_stays_on : FnScope N_stays_on P_stays_on (defScope s_stays_on) := ⟨rfl, rfl, rfl, by decide +kernel, rfl, by decide +kernel, by decide +kernel⟩
theorem bi_stays_on : BindsF "stays_on" s_stays_on P_stays_on := fun _ _ _ _ _ _ us hl => match us, hl with | [_, _, _, _], _ => rfl
theorem ok_stays_on (T : Txt K mg) {fA : Addr} {fd : FuncData} (Dn : DefIn K mg "stays_on" s_stays_on fA fd) (C_verdict_of : DFn P w K mg base "verdict_of" 7 [false, false] .f Mi.verdict_of) (C_next_ones : DFn P w K mg base "next_ones" 9 [false, false] .f Mi.next_ones) : DFn P w K mg base "stays_on" 10 [false, false, false, false] .f Mi.stays_on :=
  dfn_ok (k := 9) Dn sc_stays_on rfl bi_stays_on fun cdv A outer s H E H0 pr pf hr tk => by
    have sc := sc_stays_on; have hu := hr.units; have hv := room_hv hr
    exact (dss_cons (ds_set 4 (pf 4 rfl) sc.nd rfl (.inl rfl) (de_calls rfl rfl tk C_verdict_of hr (by decide) rfl (dg_d (de_var 0 rfl (.inl rfl)) (dg_d (de_var 3 rfl (.inl rfl)) dg_nil))))
      (dss_cons (ds_if (dt_notN (de_var 4 rfl (.inl rfl))) (dss_one (ds_ret (de_cmp (op_neD hu) opd_ne (de_var 4 rfl (.inl rfl)) (de_op op_sub opd_sub de_int (de_var 1 rfl (.inl rfl))) (nomark _)))) dss_nil)
      (dss_cons (ds_setLc 5 (pf 5 rfl) rfl sc.nd rfl rfl (sw_true rfl rfl rfl (by decide +kernel)) (di_gen rfl (de_calls rfl rfl tk C_next_ones hr (by decide) rfl (dg_d (de_var 0 rfl (.inl rfl)) (dg_d (de_var 3 rfl (.inl rfl)) dg_nil)))) (blkOk_by (N := N_stays_on) (sc := defScope s_stays_on) (own := [("there", 6)]) (by decide +kernel)) rfl rfl (fun _ _ _ _ _ _ => (dg_name 6 (pf 6 rfl) sc.nd rfl (.inl rfl))) (fun _ _ _ _ _ _ => dts_nil) (fun _ _ _ _ _ _ => (de_cmp (op_inX hv) opd_inX (de_var 6 rfl (.inl rfl)) (de_var 2 rfl (.inr (.inl rfl))) (by with_unfolding_all rfl))))
      (dss_one (ds_ret (de_lend fun _ => (de_if (dt_cmp (op_eqD hu) opd_eq (de_ix (ix_X hv) opd_ixX (de_var 3 rfl (.inl rfl)) de_int) (de_var 1 rfl (.inl rfl)) (nomark _)) (de_callB (cr_any rfl) cd_any rfl T.n_any (by decide +kernel) (da_cons (de_var 5 rfl (.inl rfl)) da_nil)) (de_callB (cr_all rfl) cd_all rfl T.n_all (by decide +kernel) (da_cons (de_var 5 rfl (.inl rfl)) da_nil)))))))))
theorem sc_stay_holds : FnScope N_stay_holds P_stay_holds (defScope s_stay_holds) := ⟨rfl, rfl, rfl, by decide +kernel, rfl, by decide +kernel, by decide +kernel⟩
theorem bi_stay_holds : BindsF "stay_holds" s_stay_holds P_stay_holds := fun _ _ _ _ _ _ us hl => match us, hl with | [_, _, _, _], _ => rfl
theorem ok_stay_holds (T : Txt K mg) {fA : Addr} {fd : FuncData} (Dn : DefIn K mg "stay_holds" s_stay_holds fA fd) (C_is_position : DFn P w K mg base "is_position" 4 [false, false] .f Mi.is_position) (C_check_position : DFn P w K mg base "check_position" 5 [false, false] .f Mi.check_position) (C_check_side : DFn P w K mg base "check_side" 1 [false] .f Mi.check_side) (C_stays_on : DFn P w K mg base "stays_on" 10 [false, false, false, false] .f Mi.stays_on) : DFn P w K mg base "stay_holds" 11 [false, false, false, false] .f Mi.stay_holds :=
  dfn_ok (k := 10) Dn sc_stay_holds rfl bi_stay_holds fun cdv A outer s H E H0 pr pf hr tk => by
    have sc := sc_stay_holds; have hu := hr.units; have hv := room_hv hr
    exact (dss_cons (ds_expr (de_calls rfl rfl tk C_check_position hr (by decide) rfl (dg_d (de_var 0 rfl (.inr (.inl rfl))) (dg_d (de_var 1 rfl (.inl rfl)) dg_nil))))
      (dss_cons (ds_expr (de_calls rfl rfl tk C_check_side hr (by decide) rfl (dg_d (de_var 2 rfl (.inr (.inl rfl))) dg_nil)))
      (dss_cons (ds_if (dt_not (dt_val (de_callB (cr_all rfl) cd_all rfl T.n_all (by decide +kernel) (da_cons (de_fz (do_lc rfl sc.nd (di_gen rfl (de_var 3 rfl (.inr (.inl rfl)))) (blkOk_by (N := N_stay_holds) (sc := defScope s_stay_holds) (own := [("there", 4)]) (by decide +kernel)) rfl rfl (fun _ _ _ _ _ _ => (dg_name 4 (pf 4 rfl) sc.nd rfl (.inl rfl))) (fun _ _ _ _ _ _ => dts_nil) (fun _ _ _ _ _ _ => (de_calls rfl rfl takes0 C_is_position hr (by decide) rfl (dg_d (de_var 0 rfl (.inr (.inl rfl))) (dg_d (de_var 4 rfl (.inl rfl)) dg_nil)))))) da_nil)))) (dss_one (ds_raises rfl rfl tk (T.exs.exc "BadPaper" rfl) rfl)) dss_nil)
      (dss_cons (ds_if (dt_w (dw_or (dt_cmp (op_ninX hv) opd_ninX (de_var 1 rfl (.inl rfl)) (de_var 3 rfl (.inr (.inl rfl))) (by with_unfolding_all rfl)) (dw_or1 (dt_not (dt_val (de_callB (cr_all rfl) cd_all rfl T.n_all (by decide +kernel) (da_cons (de_fz (do_lc rfl sc.nd (by exact (di_range2 rfl T.n_range (da_cons de_int (da_cons (de_callB (callR_or call_len call_lenF) (cd_len.or cd_lenK) rfl T.n_len (by decide +kernel) (da_cons (de_var 3 rfl (.inr (.inl rfl))) da_nil)) da_nil)))) (blkOk_by (N := N_stay_holds) (sc := defScope s_stay_holds) (own := [("k", 5)]) (by decide +kernel)) rfl rfl (fun _ _ _ _ _ _ => (dg_name 5 (pf 5 rfl) sc.nd rfl (.inl rfl))) (fun _ _ _ _ _ _ => dts_nil) (fun _ _ _ _ _ _ => (de_cmp (op_ltA hv) opd_ltA (de_ix (ix_X hv) opd_ixX (de_var 3 rfl (.inr (.inl rfl))) (de_op op_sub opd_sub (de_var 5 rfl (.inl rfl)) de_int)) (de_ix (ix_X hv) opd_ixX (de_var 3 rfl (.inr (.inl rfl))) (de_var 5 rfl (.inl rfl))) (nomark _))))) da_nil))))))) (dss_one (ds_ret de_bl)) dss_nil)
      (dss_one (ds_ret (de_callB (cr_all rfl) cd_all rfl T.n_all (by decide +kernel) (da_cons (de_fz (do_lc rfl sc.nd (di_gen rfl (de_var 3 rfl (.inr (.inl rfl)))) (blkOk_by (N := N_stay_holds) (sc := defScope s_stay_holds) (own := [("there", 4)]) (by decide +kernel)) rfl rfl (fun _ _ _ _ _ _ => (dg_name 4 (pf 4 rfl) sc.nd rfl (.inl rfl))) (fun _ _ _ _ _ _ => dts_nil) (fun _ _ _ _ _ _ => (de_calls rfl rfl takes0 C_stays_on hr (by decide) rfl (dg_d (de_var 0 rfl (.inr (.inl rfl))) (dg_d (de_var 2 rfl (.inr (.inl rfl))) (dg_d (de_var 3 rfl (.inr (.inl rfl))) (dg_d (de_var 4 rfl (.inl rfl)) dg_nil)))))))) da_nil))))))))
theorem sc_stay_move : FnScope N_stay_move P_stay_move (defScope s_stay_move) := ⟨rfl, rfl, rfl, by decide +kernel, rfl, by decide +kernel, by decide +kernel⟩
theorem bi_stay_move : BindsF "stay_move" s_stay_move P_stay_move := fun _ _ _ _ _ _ us hl => match us, hl with | [_, _, _], _ => rfl
theorem ok_stay_move (T : Txt K mg) {fA : Addr} {fd : FuncData} (Dn : DefIn K mg "stay_move" s_stay_move fA fd) (C_check_position : DFn P w K mg base "check_position" 5 [false, false] .f Mi.check_position) (C_moves_of : DFn P w K mg base "moves_of" 8 [false, false] .o Mi.moves_of) (C_after_of : DFn P w K mg base "after_of" 1 [false, false] .f Mi.after_of) : DFn P w K mg base "stay_move" 9 [false, false, false] .f Mi.stay_move :=
  dfn_ok (k := 8) Dn sc_stay_move rfl bi_stay_move fun cdv A outer s H E H0 pr pf hr tk => by
    have sc := sc_stay_move; have hu := hr.units; have hv := room_hv hr
    exact (dss_cons (ds_expr (de_calls rfl rfl tk C_check_position hr (by decide) rfl (dg_d (de_var 0 rfl (.inl rfl)) (dg_d (de_var 2 rfl (.inl rfl)) dg_nil))))
      (dss_cons (ds_if (dt_cmp (op_ninX hv) opd_ninX (de_var 2 rfl (.inl rfl)) (de_var 1 rfl (.inl rfl)) (by with_unfolding_all rfl)) (dss_one (ds_raises rfl rfl tk (T.exs.exc "NoMove" rfl) rfl)) dss_nil)
      (dss_cons (ds_for (passes_of rfl) rfl (di_gen rfl (de_fzX (dx_calls rfl rfl tk C_moves_of hr (by decide) rfl (dg_d (de_var 0 rfl (.inl rfl)) (dg_d (de_var 2 rfl (.inl rfl)) dg_nil))))) (dg_name 3 (pf 3 rfl) sc.nd rfl (.inl rfl)) (dss_one (ds_if (dt_cmp (op_inX hv) opd_inX (de_calls rfl rfl tk C_after_of hr (by decide) rfl (dg_d (de_var 2 rfl (.inl rfl)) (dg_d (de_var 3 rfl (.inl rfl)) dg_nil))) (de_var 1 rfl (.inl rfl)) (by with_unfolding_all rfl)) (dss_one (ds_ret (de_var 3 rfl (.inl rfl)))) dss_nil)))
      (dss_one (ds_raises rfl rfl tk (T.exs.exc "NoMove" rfl) rfl)))))
theorem sc_rising : FnScope N_rising P_rising (defScope s_rising) := ⟨rfl, rfl, rfl, by decide +kernel, rfl, by decide +kernel, by decide +kernel⟩
theorem bi_rising : BindsF "rising" s_rising P_rising := fun _ _ _ _ _ _ us hl => match us, hl with | [_], _ => rfl
theorem ok_rising (T : Txt K mg) {fA : Addr} {fd : FuncData} (Dn : DefIn K mg "rising" s_rising fA fd) : DFn P w K mg base "rising" 1 [false] .f Mi.rising :=
  dfn_ok (k := 0) Dn sc_rising rfl bi_rising fun cdv A outer s H E H0 pr pf hr tk => by
    have sc := sc_rising; have hu := hr.units; have hv := room_hv hr
    exact (dss_one (ds_ret (de_callB (cr_all rfl) cd_all rfl T.n_all (by decide +kernel) (da_cons (de_fz (do_lc rfl sc.nd (by exact (di_range2 rfl T.n_range (da_cons de_int (da_cons (de_callB (callR_or call_len call_lenF) (cd_len.or cd_lenK) rfl T.n_len (by decide +kernel) (da_cons (de_var 0 rfl (.inr (.inl rfl))) da_nil)) da_nil)))) (blkOk_by (N := N_rising) (sc := defScope s_rising) (own := [("k", 1)]) (by decide +kernel)) rfl rfl (fun _ _ _ _ _ _ => (dg_name 1 (pf 1 rfl) sc.nd rfl (.inl rfl))) (fun _ _ _ _ _ _ => dts_nil) (fun _ _ _ _ _ _ => (de_cmp (op_ltA hv) opd_ltA (de_ix (ix_X hv) opd_ixX (de_var 0 rfl (.inr (.inl rfl))) (de_op op_sub opd_sub (de_var 1 rfl (.inl rfl)) de_int)) (de_ix (ix_X hv) opd_ixX (de_var 0 rfl (.inr (.inl rfl))) (de_var 1 rfl (.inl rfl))) (nomark _))))) da_nil))))
theorem sc_is_step : FnScope N_is_step P_is_step (defScope s_is_step) := ⟨rfl, rfl, rfl, by decide +kernel, rfl, by decide +kernel, by decide +kernel⟩
theorem bi_is_step : BindsF "is_step" s_is_step P_is_step := fun _ _ _ _ _ _ us hl => match us, hl with | [_], _ => rfl
theorem ok_is_step (T : Txt K mg) {fA : Addr} {fd : FuncData} (Dn : DefIn K mg "is_step" s_is_step fA fd) : DFn P w K mg base "is_step" 1 [false] .f Mi.is_step :=
  dfn_ok (k := 0) Dn sc_is_step rfl bi_is_step fun cdv A outer s H E H0 pr pf hr tk => by
    have sc := sc_is_step; have hu := hr.units; have hv := room_hv hr
    exact (dss_one (ds_ret (de_and (de_cmp (op_neD hu) opd_ne (de_var 0 rfl (.inl rfl)) (de_tup (da_cons de_int (da_cons de_int da_nil))) (nomark _)) (de_and (de_cmp (op_leA hv) opd_leA (de_callB call_abs cd_abs rfl T.n_abs (by decide +kernel) (da_cons (de_ix (ix_X hv) opd_ixX (de_var 0 rfl (.inl rfl)) de_int) da_nil)) (de_globI rfl T.c_MOST_STEP) (nomark _)) (de_one (de_cmp (op_leA hv) opd_leA (de_callB call_abs cd_abs rfl T.n_abs (by decide +kernel) (da_cons (de_ix (ix_X hv) opd_ixX (de_var 0 rfl (.inl rfl)) de_int) da_nil)) (de_globI rfl T.c_MOST_STEP) (nomark _)))))))
theorem sc_is_kind : FnScope N_is_kind P_is_kind (defScope s_is_kind) := ⟨rfl, rfl, rfl, by decide +kernel, rfl, by decide +kernel, by decide +kernel⟩
theorem bi_is_kind : BindsF "is_kind" s_is_kind P_is_kind := fun _ _ _ _ _ _ us hl => match us, hl with | [_, _], _ => rfl
theorem ok_is_kind (T : Txt K mg) {fA : Addr} {fd : FuncData} (Dn : DefIn K mg "is_kind" s_is_kind fA fd) (C_rising : DFn P w K mg base "rising" 1 [false] .f Mi.rising) (C_is_step : DFn P w K mg base "is_step" 1 [false] .f Mi.is_step) : DFn P w K mg base "is_kind" 2 [false, false] .f Mi.is_kind :=
  dfn_ok (k := 1) Dn sc_is_kind rfl bi_is_kind fun cdv A outer s H E H0 pr pf hr tk => by
    have sc := sc_is_kind; have hu := hr.units; have hv := room_hv hr
    exact (dss_cons (ds_asg (de_var 1 rfl (.inl rfl)) (dg_tup rfl rfl (dgs_cons (dg_name 2 (pf 2 rfl) sc.nd rfl (.inl rfl)) (dgs_cons (dg_name 3 (pf 3 rfl) sc.nd rfl (.inl rfl)) (dgs_cons (dg_name 4 (pf 4 rfl) sc.nd rfl (.inl rfl)) dgs_nil)))))
      (dss_cons (ds_if (dt_w (dw_or (dt_cmp (op_neD hu) opd_ne (de_callB (callR_or call_len call_lenF) (cd_len.or cd_lenK) rfl T.n_len (by decide +kernel) (da_cons (de_var 0 rfl (.inl rfl)) da_nil)) de_int (nomark _)) (dw_or (dt_cmp (op_ninX hv) opd_ninX (de_var 0 rfl (.inl rfl)) (de_globS rfl T.c_LETTERS) (by with_unfolding_all rfl)) (dw_or1 (dt_cmp (op_ninX hv) opd_ninX (de_var 4 rfl (.inl rfl)) (de_tup (da_cons de_int (da_cons de_int da_nil))) (by with_unfolding_all rfl)))))) (dss_one (ds_ret de_bl)) dss_nil)
      (dss_one (ds_ret (de_and (de_calls rfl rfl tk C_rising hr (by decide) rfl (dg_d (de_var 2 rfl (.inl rfl)) dg_nil)) (de_and (de_calls rfl rfl tk C_rising hr (by decide) rfl (dg_d (de_var 3 rfl (.inl rfl)) dg_nil)) (de_one (de_callB (cr_all rfl) cd_all rfl T.n_all (by decide +kernel) (da_cons (de_fz (do_lc rfl sc.nd (di_gen rfl (de_op op_addU opd_add (de_var 2 rfl (.inl rfl)) (de_var 3 rfl (.inl rfl)))) (blkOk_by (N := N_is_kind) (sc := defScope s_is_kind) (own := [("step", 5)]) (by decide +kernel)) rfl rfl (fun _ _ _ _ _ _ => (dg_name 5 (pf 5 rfl) sc.nd rfl (.inl rfl))) (fun _ _ _ _ _ _ => dts_nil) (fun _ _ _ _ _ _ => (de_calls rfl rfl takes0 C_is_step hr (by decide) rfl (dg_d (de_var 5 rfl (.inl rfl)) dg_nil))))) da_nil)))))))))
theorem sc_law_cell_at : FnScope N_law_cell_at P_law_cell_at (defScope s_law_cell_at) := ⟨rfl, rfl, rfl, by decide +kernel, rfl, by decide +kernel, by decide +kernel⟩
theorem bi_law_cell_at : BindsF "_law_cell_at" s_law_cell_at P_law_cell_at := fun _ _ _ _ _ _ us hl => match us, hl with | [_, _], _ => rfl
theorem ok_law_cell_at (T : Txt K mg) {fA : Addr} {fd : FuncData} (Dn : DefIn K mg "_law_cell_at" s_law_cell_at fA fd) : DFn P w K mg base "_law_cell_at" 1 [false, false] .f Mi.law_cell_at :=
  dfn_ok (k := 0) Dn sc_law_cell_at rfl bi_law_cell_at fun cdv A outer s H E H0 pr pf hr tk => by
    have sc := sc_law_cell_at; have hu := hr.units; have hv := room_hv hr
    exact (dss_cons (ds_if (dt_cmp (op_ltA hv) opd_ltA (de_var 1 rfl (.inl rfl)) (de_callB (callR_or call_len call_lenF) (cd_len.or cd_lenK) rfl T.n_len (by decide +kernel) (da_cons (de_var 0 rfl (.inl rfl)) da_nil)) (nomark _)) (dss_one (ds_ret (de_ix (ix_X hv) opd_ixX (de_var 0 rfl (.inl rfl)) (de_var 1 rfl (.inl rfl))))) dss_nil)
      (dss_one (ds_ret de_int)))
theorem sc_law_asked : FnScope N_law_asked P_law_asked (defScope s_law_asked) := ⟨rfl, rfl, rfl, by decide +kernel, rfl, by decide +kernel, by decide +kernel⟩
theorem bi_law_asked : BindsF "_law_asked" s_law_asked P_law_asked := fun _ _ _ _ _ _ us hl => match us, hl with | [_, _, _, _], _ => rfl
theorem ok_law_asked (T : Txt K mg) {fA : Addr} {fd : FuncData} (Dn : DefIn K mg "_law_asked" s_law_asked fA fd) (C_reach : DFn P w K mg base "reach" 11 [false, false] .o Mi.reach) (C_ranks : DFn P w K mg base "ranks" 11 [false, false] .o Mi.ranks) (C_ranks_hold : DFn P w K mg base "ranks_hold" 10 [false, false] .f Mi.ranks_hold) (C_win_move : DFn P w K mg base "win_move" 9 [false, false, false] .f Mi.win_move) (C_stay : DFn P w K mg base "stay" 11 [false, false, false] .o Mi.stay) (C_stay_holds : DFn P w K mg base "stay_holds" 11 [false, false, false, false] .f Mi.stay_holds) (C_stay_move : DFn P w K mg base "stay_move" 9 [false, false, false] .f Mi.stay_move) : DFn P w K mg base "_law_asked" 12 [false, false, false, false] .f Mi.law_asked :=
  dfn_ok (k := 11) Dn sc_law_asked rfl bi_law_asked fun cdv A outer s H E H0 pr pf hr tk => by
    have sc := sc_law_asked; have hu := hr.units; have hv := room_hv hr
    exact (dss_cons (ds_if (dt_cmp (op_eqD hu) opd_eq (de_var 3 rfl (.inl rfl)) de_int (nomark _)) (dss_one (ds_expr (de_fzX (dx_calls rfl rfl tk C_reach hr (by decide) rfl (dg_d (de_var 0 rfl (.inl rfl)) (dg_d (de_var 1 rfl (.inl rfl)) dg_nil)))))) dss_nil)
      (dss_cons (ds_if (dt_cmp (op_eqD hu) opd_eq (de_var 3 rfl (.inl rfl)) de_int (nomark _)) (dss_one (ds_expr (de_fzX (dx_calls rfl rfl tk C_ranks hr (by decide) rfl (dg_d (de_var 0 rfl (.inl rfl)) (dg_d (de_var 1 rfl (.inl rfl)) dg_nil)))))) dss_nil)
      (dss_cons (ds_if (dt_cmp (op_eqD hu) opd_eq (de_var 3 rfl (.inl rfl)) de_int (nomark _)) (dss_one (ds_expr (de_calls rfl rfl tk C_win_move hr (by decide) rfl (dg_d (de_var 0 rfl (.inl rfl)) (dg_d (de_fzC dc_new) (dg_d (de_var 1 rfl (.inl rfl)) dg_nil)))))) dss_nil)
      (dss_cons (ds_if (dt_cmp (op_eqD hu) opd_eq (de_var 3 rfl (.inl rfl)) de_int (nomark _)) (dss_one (ds_expr (de_fzX (dx_calls rfl rfl tk C_stay hr (by decide) rfl (dg_d (de_var 0 rfl (.inl rfl)) (dg_d (de_var 1 rfl (.inl rfl)) (dg_d (de_var 2 rfl (.inl rfl)) dg_nil))))))) dss_nil)
      (dss_cons (ds_if (dt_cmp (op_eqD hu) opd_eq (de_var 3 rfl (.inl rfl)) de_int (nomark _)) (dss_one (ds_expr (de_calls rfl rfl tk C_stay_holds hr (by decide) rfl (dg_d (de_var 0 rfl (.inl rfl)) (dg_d (de_var 1 rfl (.inl rfl)) (dg_d (de_var 2 rfl (.inl rfl)) (dg_d (de_fz (do_lst (da_cons (de_tup (da_cons de_int (da_cons (de_tup da_nil) da_nil))) da_nil))) dg_nil))))))) dss_nil)
      (dss_cons (ds_if (dt_cmp (op_eqD hu) opd_eq (de_var 3 rfl (.inl rfl)) de_int (nomark _)) (dss_one (ds_expr (de_calls rfl rfl tk C_stay_move hr (by decide) rfl (dg_d (de_var 0 rfl (.inl rfl)) (dg_d (de_fz (do_lst da_nil)) (dg_d (de_var 1 rfl (.inl rfl)) dg_nil)))))) dss_nil)
      (dss_cons (ds_if (dt_cmp (op_eqD hu) opd_eq (de_var 3 rfl (.inl rfl)) de_int (nomark _)) (dss_one (ds_expr (de_calls rfl rfl tk C_ranks_hold hr (by decide) rfl (dg_d (de_var 0 rfl (.inl rfl)) (dg_d (de_fzC (dc_dictN rfl hv (.cons (fun _ => (de_var 1 rfl (.inl rfl))) (fun _ => de_non) .nil) rfl rfl (by simp) (by decide))) dg_nil))))) dss_nil)
      (dss_one (ds_if (dt_cmp (op_eqD hu) opd_eq (de_var 3 rfl (.inl rfl)) de_int (nomark _)) (dss_one (ds_expr (de_calls rfl rfl tk C_stay_holds hr (by decide) rfl (dg_d (de_var 0 rfl (.inl rfl)) (dg_d (de_var 1 rfl (.inl rfl)) (dg_d (de_var 2 rfl (.inl rfl)) (dg_d (de_fz (do_lst da_nil)) dg_nil))))))) dss_nil)))))))))
theorem sc_law_kind : FnScope N_law_kind P_law_kind (defScope s_law_kind) := ⟨rfl, rfl, rfl, by decide +kernel, rfl, by decide +kernel, by decide +kernel⟩
theorem bi_law_kind : BindsF "_law_kind" s_law_kind P_law_kind := fun _ _ _ _ _ _ us hl => match us, hl with | [_, _, _, _], _ => rfl
theorem ok_law_kind (T : Txt K mg) {fA : Addr} {fd : FuncData} (Dn : DefIn K mg "_law_kind" s_law_kind fA fd) (C_law_asked : DFn P w K mg base "_law_asked" 12 [false, false, false, false] .f Mi.law_asked) : DFn P w K mg base "_law_kind" 13 [false, false, false, false] .f Mi.law_kind_own :=
  dfn_ok (k := 12) Dn sc_law_kind rfl bi_law_kind fun cdv A outer s H E H0 pr pf hr tk => by
    have sc := sc_law_kind; have hu := hr.units; have hv := room_hv hr
    exact (dss_cons (ds_tryT 4 rfl rfl (pf 4 rfl) T.exs rfl rfl (by decide) rfl rfl sc.nd rfl rfl tk (fun W1 pn1 xe1 tk1 po1 => (dss_one (ds_expr (de_calls rfl rfl tk1 C_law_asked hr (by decide) rfl (dg_d (de_var 0 rfl (.inl rfl)) (dg_d (de_var 1 rfl (.inl rfl)) (dg_d (de_var 2 rfl (.inl rfl)) (dg_d (de_var 3 rfl (.inl rfl)) dg_nil))))))))
      (fun a1 oe1 C1 c1 pn1 hx => (dss_cons (ds_set 5 (pf 5 rfl) sc.nd rfl (.inl rfl) (de_fz (do_lst (da_cons (de_isEc 4 hx T.exs rfl rfl rfl (by decide) rfl T.n_isinstance rfl (.inl rfl)) (da_cons (de_isEc 4 hx T.exs rfl rfl rfl (by decide) rfl T.n_isinstance rfl (.inl rfl)) (da_cons (de_isEc 4 hx T.exs rfl rfl rfl (by decide) rfl T.n_isinstance rfl (.inl rfl)) (da_cons (de_isEc 4 hx T.exs rfl rfl rfl (by decide) rfl T.n_isinstance rfl (.inl rfl)) da_nil)))))))
      (dss_cons (ds_set 5 (pf 5 rfl) sc.nd rfl (.inl rfl) (de_op op_addU opd_add (de_var 5 rfl (.inl rfl)) (de_fz (do_lst (da_cons (de_isEc 4 hx T.exs rfl rfl rfl (by decide) rfl T.n_isinstance rfl (.inl rfl)) (da_cons (de_isEc 4 hx T.exs rfl rfl rfl (by decide) rfl T.n_isinstance rfl (.inl rfl)) da_nil))))))
      (dss_cons (ds_if (dt_w (dw_or (dt_not (dt_val (de_isEv 4 hx T.exs rfl rfl T.n_ValueError rfl T.n_isinstance rfl (.inl rfl)))) (dw_or1 (dt_cmp (op_neD hu) opd_ne (de_bm rfl PySem.F.plainAttrs_list PySem.F.slot_list_count PySem.F.type_list_count mt_cntF mv_count (de_var 5 rfl (.inl rfl)) (da_cons de_bl da_nil)) de_int (nomark _))))) (dss_one (ds_ret de_int)) dss_nil)
      (dss_one (ds_ret (de_bm rfl PySem.F.plainAttrs_list PySem.F.slot_list_index PySem.F.type_list_index mt_index mv_index (de_var 5 rfl (.inl rfl)) (da_cons de_bl da_nil)))))))))
      (dss_one (ds_ret de_int)))
theorem sc_Yard_ini : FnScope N_Yard_ini P_Yard_ini (defScope s_Yard_ini) := ⟨rfl, rfl, rfl, by decide +kernel, rfl, by decide +kernel, by decide +kernel⟩
theorem bi_Yard_ini : BindsM "__init__" "Yard.__init__" s_Yard_ini P_Yard_ini := fun _ _ _ _ _ _ us hl => match us, hl with | [_, _, _, _, _, _, _], _ => rfl
theorem ok_Yard_ini (T : Txt K mg) {fA : Addr} {fd : FuncData} (Dn : InitIn K mg "Yard" "Yard.__init__" s_Yard_ini fA fd) (C_rising : DFn P w K mg base "rising" 1 [false] .f Mi.rising) (C_is_kind : DFn P w K mg base "is_kind" 2 [false, false] .f Mi.is_kind) (C_Yard_on_board : DMe P w K mg base "Yard" "on_board" 1 [false, false] Mi.Yard_on_board) (C_Yard_is_free : DMe P w K mg base "Yard" "is_free" 2 [false, false] Mi.Yard_is_free) : DMk P w K mg base "Yard" 3 6 (iniF 13 "Yard" Mi.Yard_ini) :=
  dmk_ok (k := 2) Dn sc_Yard_ini rfl bi_Yard_ini fun cdv A outer s H E hr tk => by
    have sc := sc_Yard_ini; have hu := hr.units; have hv := room_hv hr
    exact (is_cons (is_if (fun _ => (dt_w (dw_or (dt_not (dt_chain (op_leA hv) opd_leA (op_leA hv) opd_leA de_int (de_var 1 rfl (.inl rfl)) (de_globI rfl T.c_MOST_SIDE))) (dw_or (dt_not (dt_chain (op_leA hv) opd_leA (op_leA hv) opd_leA de_int (de_var 2 rfl (.inl rfl)) (de_globI rfl T.c_MOST_SIDE))) (dw_or1 (dt_cmp (op_ninX hv) opd_ninX (de_var 6 rfl (.inl rfl)) (de_tup (da_cons de_str (da_cons de_str da_nil))) (by with_unfolding_all rfl))))))) (fun _ => (ds_raises rfl rfl tk (T.exs.exc "BadYard" rfl) rfl)))
      (is_cons (is_setF rfl T.k_Yard (by decide) (fun _ => (de_var 1 rfl (.inl rfl))) rfl)
      (is_cons (is_setF rfl T.k_Yard (by decide) (fun _ => (de_var 2 rfl (.inl rfl))) rfl)
      (is_cons (is_setF rfl T.k_Yard (by decide) (fun _ => (de_fz (do_callTy call_list_of co_list rfl T.n_list (by decide +kernel) (da_cons (de_var 3 rfl (.inl rfl)) da_nil)))) rfl)
      (is_cons (is_setF rfl T.k_Yard (by decide) (fun _ => (de_var 6 rfl (.inl rfl))) rfl)
      (is_cons (is_if (fun _ => (dt_w (dw_or (dt_not (dt_val (de_calls rfl rfl tk C_rising hr (by decide) rfl (dg_d (de_var 3 rfl (.inl rfl)) dg_nil)))) (dw_or1 (dt_not (dt_val (de_callB (cr_all rfl) cd_all rfl T.n_all (by decide +kernel) (da_cons (de_fz (do_lc rfl sc.nd (di_gen rfl (de_var 3 rfl (.inl rfl))) (blkOk_by (N := N_Yard_ini) (sc := defScope s_Yard_ini) (own := [("cell", 12)]) (by decide +kernel)) rfl rfl (fun _ _ _ _ _ _ => (dg_name 12 (fun _ hp => absurd hp List.not_mem_nil) sc.nd rfl (.inl rfl))) (fun _ _ _ _ _ _ => dts_nil) (fun _ _ _ _ _ _ => (de_meth rfl rfl takes0 C_Yard_on_board hr (by decide) (de_var 0 rfl (.inr (.inl rfl))) (dg_d (de_var 12 rfl (.inl rfl)) dg_nil))))) da_nil)))))))) (fun _ => (ds_raises rfl rfl tk (T.exs.exc "BadYard" rfl) rfl)))
      (is_cons (is_if (fun _ => (dt_w (dw_or (dt_not (dt_chain (op_leA hv) opd_leA (op_leA hv) opd_leA de_int (de_callB (callR_or call_len call_lenF) (cd_len.or cd_lenK) rfl T.n_len (by decide +kernel) (da_cons (de_var 4 rfl (.inr (.inl rfl))) da_nil)) (de_globI rfl T.c_MOST_KINDS))) (dw_or1 (dt_not (dt_val (de_callB (cr_all rfl) cd_all rfl T.n_all (by decide +kernel) (da_cons (de_fz (do_lc rfl sc.nd (di_gen rfl (de_var 4 rfl (.inr (.inl rfl)))) (blkOk_by (N := N_Yard_ini) (sc := defScope s_Yard_ini) (own := [("letter", 8)]) (by decide +kernel)) rfl rfl (fun _ _ _ _ _ _ => (dg_name 8 (fun _ hp => absurd hp List.not_mem_nil) sc.nd rfl (.inl rfl))) (fun _ _ _ _ _ _ => dts_nil) (fun _ _ _ _ _ _ => (de_calls rfl rfl takes0 C_is_kind hr (by decide) rfl (dg_d (de_var 8 rfl (.inl rfl)) (dg_d (de_ix (ix_X hv) opd_ixX (de_var 4 rfl (.inr (.inl rfl))) (de_var 8 rfl (.inl rfl))) dg_nil)))))) da_nil)))))))) (fun _ => (ds_raises rfl rfl tk (T.exs.exc "BadYard" rfl) rfl)))
      (is_cons (is_forIf 7 (by decide) (passes_of rfl) rfl sc.nd rfl (.inl rfl) (fun _ => (di_gen rfl (de_var 5 rfl (.inl rfl)))) (fun _ => (dt_w (dw_or (dt_not (dt_val (de_calls rfl rfl tk C_rising hr (by decide) rfl (dg_d (de_var 7 rfl (.inl rfl)) dg_nil)))) (dw_or1 (dt_not (dt_val (de_callB (cr_all rfl) cd_all rfl T.n_all (by decide +kernel) (da_cons (de_fz (do_lc rfl sc.nd (di_gen rfl (de_var 7 rfl (.inl rfl))) (blkOk_by (N := N_Yard_ini) (sc := defScope s_Yard_ini) (own := [("cell", 12)]) (by decide +kernel)) rfl rfl (fun _ _ _ _ _ _ => (dg_name 12 (fun _ hp => absurd hp List.not_mem_nil) sc.nd rfl (.inl rfl))) (fun _ _ _ _ _ _ => dts_nil) (fun _ _ _ _ _ _ => (de_meth rfl rfl takes0 C_Yard_is_free hr (by decide) (de_var 0 rfl (.inr (.inl rfl))) (dg_d (de_var 12 rfl (.inl rfl)) dg_nil))))) da_nil)))))))) (fun _ => (ds_raises rfl rfl tk (T.exs.exc "BadYard" rfl) rfl)))
      (is_cons (is_setF rfl T.k_Yard (by decide) (fun _ => (de_tup (da_cons (de_fz (do_callTy call_list_of co_list rfl T.n_list (by decide +kernel) (da_cons (de_ix (ix_X hv) opd_ixX (de_var 5 rfl (.inl rfl)) de_int) da_nil))) (da_cons (de_fz (do_callTy call_list_of co_list rfl T.n_list (by decide +kernel) (da_cons (de_ix (ix_X hv) opd_ixX (de_var 5 rfl (.inl rfl)) de_int) da_nil))) da_nil)))) rfl)
      (is_kinds 8 (by decide) rfl T.k_Yard (by decide) (Nat.lt_of_le_of_lt (Nat.add_le_add_left (by decide : 1 ≤ 130) _) hv) (passes_of rfl) rfl sc.nd rfl rfl (.inl rfl) (by decide) (fun _ => (di_gen rfl (de_fz (do_callB (X := _) (callR_or (cr_sortD rfl hv) (call_sortedD rfl)) (co_sortL.or co_sortK) (by exact rfl) T.n_sorted (by decide +kernel) (da_cons (de_var 4 rfl (.inr (.inl rfl))) da_nil))))) (fun _ => (de_ix (ix_X hv) opd_ixX (de_var 4 rfl (.inr (.inl rfl))) (de_var 8 rfl (.inl rfl)))) (fun _ => (dg_tup rfl rfl (dgs_cons (dg_name 9 (fun _ hp => absurd hp List.not_mem_nil) sc.nd rfl (.inl rfl)) (dgs_cons (dg_name 10 (fun _ hp => absurd hp List.not_mem_nil) sc.nd rfl (.inl rfl)) (dgs_cons (dg_name 11 (fun _ hp => absurd hp List.not_mem_nil) sc.nd rfl (.inl rfl)) dgs_nil))))) (fun _ => (de_var 8 rfl (.inl rfl))) (fun _ => (de_tup (da_cons (de_fz (do_callTy call_list_of co_list rfl T.n_list (by decide +kernel) (da_cons (de_var 9 rfl (.inl rfl)) da_nil))) (da_cons (de_fz (do_callTy call_list_of co_list rfl T.n_list (by decide +kernel) (da_cons (de_var 10 rfl (.inl rfl)) da_nil))) (da_cons (de_var 11 rfl (.inl rfl)) da_nil)))))))))))))))
theorem sc_law : FnScope N_law P_law (defScope s_law) := ⟨rfl, rfl, rfl, by decide +kernel, rfl, by decide +kernel, by decide +kernel⟩
theorem bi_law : BindsF "law" s_law P_law := fun _ _ _ _ _ _ us hl => match us, hl with | [_], _ => rfl
theorem ok_law (T : Txt K mg) {fA : Addr} {fd : FuncData} (Dn : DefIn K mg "law" s_law fA fd) (C_ranks_hold : DFn P w K mg base "ranks_hold" 10 [false, false] .f Mi.ranks_hold) (C_stay_holds : DFn P w K mg base "stay_holds" 11 [false, false, false, false] .f Mi.stay_holds) (C_law_cell_at : DFn P w K mg base "_law_cell_at" 1 [false, false] .f Mi.law_cell_at) (C_law_kind : DFn P w K mg base "_law_kind" 13 [false, false, false, false] .f Mi.law_kind_own) (C_Yard_ini : DMk P w K mg base "Yard" 3 6 (iniF 13 "Yard" Mi.Yard_ini)) : FnOk P w K mg base (L2.CX P w) 14 fA fd P_law (spD ⟨K, mg, w⟩ none [false] .f Mi.law) :=
  fn_ok (k := 13) Dn.2 sc_law rfl fun cdv A outer s H E H0 pr pf hr tk => by
    have sc := sc_law; have hu := hr.units; have hv := room_hv hr
    exact (dss_cons (ds_set 1 (pf 1 rfl) sc.nd rfl (.inl rfl) (de_dict (.cons (fun _ => de_str) (fun _ => (de_tup (da_cons (de_fz (do_lst (da_cons (de_tup (da_cons de_int (da_cons de_int da_nil))) da_nil))) (da_cons (de_fz (do_lst da_nil)) (da_cons de_int da_nil))))) (.cons (fun _ => de_str) (fun _ => (de_tup (da_cons (de_fz (do_lst da_nil)) (da_cons (de_fz (do_lst (da_cons (de_tup (da_cons de_int (da_cons de_int da_nil))) da_nil))) (da_cons de_int da_nil))))) .nil)) rfl rfl (by simp) (by decide)))
      (dss_cons (ds_set 2 (pf 2 rfl) sc.nd rfl (.inl rfl) (de_make rfl tk C_Yard_ini hr (by decide) rfl (da_cons de_int (da_cons de_int (da_cons (de_fz (do_lst (da_cons (de_tup (da_cons de_int (da_cons de_int da_nil))) da_nil))) (da_cons (de_var 1 rfl (.inl rfl)) (da_cons (de_tup (da_cons (de_fz (do_lst (da_cons (de_tup (da_cons de_int (da_cons de_int da_nil))) da_nil))) (da_cons (de_fz (do_lst da_nil)) da_nil))) (da_cons de_str da_nil))))))))
      (dss_cons (ds_set 3 (pf 3 rfl) sc.nd rfl (.inl rfl) (de_tup (da_cons (de_tup (da_cons (de_tup (da_cons de_int (da_cons de_int da_nil))) (da_cons de_int (da_cons de_str da_nil)))) (da_cons (de_tup (da_cons (de_tup (da_cons de_int (da_cons de_int da_nil))) (da_cons de_int (da_cons de_str da_nil)))) da_nil))))
      (dss_cons (ds_set 4 (pf 4 rfl) sc.nd rfl (.inl rfl) (de_fz (do_lst (da_cons (de_tup (da_cons (de_neg de_int) (da_cons (de_var 3 rfl (.inl rfl)) da_nil))) (da_cons (de_tup (da_cons de_int (da_cons (de_tup da_nil) da_nil))) (da_cons (de_tup (da_cons de_int (da_cons (de_tup (da_cons (de_tup (da_cons (de_tup (da_cons de_int (da_cons de_int da_nil))) (da_cons de_int (da_cons de_str da_nil)))) da_nil)) da_nil))) (da_cons (de_tup (da_cons de_int (da_cons (de_tup (da_cons (de_tup (da_cons (de_tup (da_cons de_int (da_cons de_int da_nil))) (da_cons de_int (da_cons de_str da_nil)))) da_nil)) da_nil))) (da_cons (de_tup (da_cons de_int (da_cons (de_rev rfl (de_var 3 rfl (.inl rfl))) da_nil))) da_nil))))))))
      (dss_cons (ds_set 5 (pf 5 rfl) sc.nd rfl (.inl rfl) (de_calls rfl rfl tk C_law_cell_at hr (by decide) rfl (dg_d (de_var 0 rfl (.inl rfl)) (dg_d de_int dg_nil))))
      (dss_cons (ds_for (passes_of rfl) rfl (di_range1 rfl T.n_range (da_cons de_int da_nil)) (dg_name 6 (pf 6 rfl) sc.nd rfl (.inl rfl)) (dss_cons (ds_set 7 (pf 7 rfl) sc.nd rfl (.inl rfl) (de_op op_mod opd_mod (de_op op_addU opd_add (de_var 5 rfl (.inl rfl)) (de_var 6 rfl (.inl rfl))) de_int))
      (dss_one (ds_if (dt_cmp (op_neD hu) opd_ne (de_calls rfl rfl tk C_law_kind hr (by decide) rfl (dg_d (de_var 2 rfl (.inl rfl)) (dg_d (de_ix (ix_X hv) opd_ixX (de_var 4 rfl (.inl rfl)) (de_op op_fdiv opd_div (de_var 7 rfl (.inl rfl)) de_int)) (dg_d (de_ix (ix_X hv) opd_ixX (de_fz (do_lst (da_cons de_int (da_cons de_int da_nil)))) (de_op op_mod opd_mod (de_var 5 rfl (.inl rfl)) de_int)) (dg_d (de_op op_mod opd_mod (de_var 7 rfl (.inl rfl)) de_int) dg_nil))))) (de_ix (ix_X hv) opd_ixX (de_fz (do_lst (da_cons de_int (da_cons de_int (da_cons de_int (da_cons de_int (da_cons de_int (da_cons de_int (da_cons de_int (da_cons de_int da_nil)))))))))) (de_op op_mod opd_mod (de_var 7 rfl (.inl rfl)) de_int)) (nomark _)) (dss_one (ds_ret de_bl)) dss_nil))))
      (dss_cons (ds_for (passes_of rfl) rfl (di_range1 rfl T.n_range (da_cons de_int da_nil)) (dg_name 8 (pf 8 rfl) sc.nd rfl (.inl rfl)) (dss_cons (ds_if (dt_cmp (op_neD hu) opd_ne (de_calls rfl rfl tk C_law_kind hr (by decide) rfl (dg_d (de_var 2 rfl (.inl rfl)) (dg_d (de_tup (da_cons de_int (da_cons (de_var 3 rfl (.inl rfl)) da_nil))) (dg_d (de_ix (ix_X hv) opd_ixX (de_fz (do_lst (da_cons de_int (da_cons (de_neg de_int) da_nil)))) (de_op op_mod opd_mod (de_var 5 rfl (.inl rfl)) de_int)) (dg_d (de_var 8 rfl (.inl rfl)) dg_nil))))) (de_ix (ix_X hv) opd_ixX (de_fz (do_lst (da_cons de_int (da_cons de_int (da_cons de_int (da_cons de_int (da_cons de_int (da_cons de_int (da_cons de_int (da_cons de_int da_nil)))))))))) (de_var 8 rfl (.inl rfl))) (nomark _)) (dss_one (ds_ret de_bl)) dss_nil)
      (dss_one (ds_if (dt_cmp (op_neD hu) opd_ne (de_calls rfl rfl tk C_law_kind hr (by decide) rfl (dg_d (de_var 2 rfl (.inl rfl)) (dg_d (de_tup (da_cons de_int (da_cons (de_var 3 rfl (.inl rfl)) da_nil))) (dg_d (de_op op_mod opd_mod (de_var 5 rfl (.inl rfl)) de_int) (dg_d (de_var 8 rfl (.inl rfl)) dg_nil))))) (de_ix (ix_X hv) opd_ixX (de_fz (do_lst (da_cons de_int (da_cons de_int (da_cons de_int (da_cons de_int (da_cons de_int (da_cons de_int (da_cons de_int (da_cons de_int da_nil)))))))))) (de_var 8 rfl (.inl rfl))) (nomark _)) (dss_one (ds_ret de_bl)) dss_nil))))
      (dss_one (ds_ret (de_and (de_cmp op_isBl opd_isB (de_calls rfl rfl tk C_ranks_hold hr (by decide) rfl (dg_d (de_var 2 rfl (.inl rfl)) (dg_d (de_fzC dc_new) dg_nil))) de_bl (nomark _)) (de_one (de_cmp op_isBl opd_isB (de_calls rfl rfl tk C_stay_holds hr (by decide) rfl (dg_d (de_var 2 rfl (.inl rfl)) (dg_d (de_tup (da_cons de_int (da_cons (de_var 3 rfl (.inl rfl)) da_nil))) (dg_d (de_op op_mod opd_mod (de_var 5 rfl (.inl rfl)) de_int) (dg_d (de_fz (do_lst da_nil)) dg_nil))))) de_bl (nomark _)))))))))))))
theorem law_ok {h : Heap} (X : K.In h) (G : h.Ns mainGlobals mg) (c : He.SaysD fa fn K) (xt : (exsB K tab && slotsB K) = true) : ∃ fd, DefIn K mg "law" s_law (He.ga K "law") fd ∧ slotsB K = true ∧ ∀ base : Heap, FnOk P w K mg base (L2.CX P w) 14 (He.ga K "law") fd P_law (spD ⟨K, mg, w⟩ none [false] .f Mi.law) := by
  rw [Bool.and_eq_true] at xt
  have T : Txt K mg := ⟨exsB_ok X G xt.1, He.free_ok X G (c.fact 41 (f := .free "ValueError") rfl), He.free_ok X G (c.fact 42 (f := .free "abs") rfl), He.free_ok X G (c.fact 43 (f := .free "all") rfl), He.free_ok X G (c.fact 44 (f := .free "any") rfl), He.free_ok X G (c.fact 45 (f := .free "isinstance") rfl), He.free_ok X G (c.fact 46 (f := .free "len") rfl), He.free_ok X G (c.fact 47 (f := .free "list") rfl), He.free_ok X G (c.fact 48 (f := .free "max") rfl), He.free_ok X G (c.fact 49 (f := .free "min") rfl), He.free_ok X G (c.fact 50 (f := .free "range") rfl), He.free_ok X G (c.fact 51 (f := .free "set") rfl), He.free_ok X G (c.fact 52 (f := .free "sorted") rfl), He.free_ok X G (c.fact 53 (f := .free "tuple") rfl), He.str_ok X G (c.fact 54 (f := .str "LETTERS" "abcdefghijklmnopqrstuvwxyz") rfl), He.int_ok X G (c.fact 55 (f := .int "MOST_KINDS" 6) rfl), He.int_ok X G (c.fact 56 (f := .int "MOST_PIECES" 10) rfl), He.int_ok X G (c.fact 57 (f := .int "MOST_REACH" 150) rfl), He.int_ok X G (c.fact 58 (f := .int "MOST_SIDE" 5) rfl), He.int_ok X G (c.fact 59 (f := .int "MOST_STEP" 4) rfl), cls_in X G c 60 61 rfl rfl (by simp only [List.mem_cons, List.not_mem_nil, or_false]; rintro f (rfl | rfl | rfl | rfl | rfl | rfl) <;> first | exact ⟨63, rfl⟩ | exact ⟨64, rfl⟩ | exact ⟨65, rfl⟩ | exact ⟨66, rfl⟩ | exact ⟨67, rfl⟩ | exact ⟨68, rfl⟩)⟩
  obtain ⟨fd_is_piece, D_is_piece⟩ := def_in (x := "is_piece") (st := s_is_piece) X G c 0 0 rfl rfl
  obtain ⟨fd_crowns, D_crowns⟩ := def_in (x := "crowns") (st := s_crowns) X G c 1 1 rfl rfl
  obtain ⟨fd_is_position, D_is_position⟩ := def_in (x := "is_position") (st := s_is_position) X G c 2 2 rfl rfl
  obtain ⟨fd_check_position, D_check_position⟩ := def_in (x := "check_position") (st := s_check_position) X G c 3 3 rfl rfl
  obtain ⟨fd_piece_at, D_piece_at⟩ := def_in (x := "piece_at") (st := s_piece_at) X G c 4 4 rfl rfl
  obtain ⟨fd_turned_step, D_turned_step⟩ := def_in (x := "turned_step") (st := s_turned_step) X G c 5 5 rfl rfl
  obtain ⟨fd_gone, D_gone⟩ := def_in (x := "gone") (st := s_gone) X G c 6 6 rfl rfl
  obtain ⟨fd_may_end, D_may_end⟩ := def_in (x := "may_end") (st := s_may_end) X G c 7 7 rfl rfl
  obtain ⟨fd_ride, D_ride⟩ := def_in (x := "ride") (st := s_ride) X G c 8 8 rfl rfl
  obtain ⟨fd_ways_of, D_ways_of⟩ := def_in (x := "ways_of") (st := s_ways_of) X G c 9 9 rfl rfl
  obtain ⟨fd_all_ways, D_all_ways⟩ := def_in (x := "all_ways") (st := s_all_ways) X G c 10 10 rfl rfl
  obtain ⟨fd_on_goal, D_on_goal⟩ := def_in (x := "on_goal") (st := s_on_goal) X G c 11 11 rfl rfl
  obtain ⟨fd_verdict_of, D_verdict_of⟩ := def_in (x := "verdict_of") (st := s_verdict_of) X G c 12 12 rfl rfl
  obtain ⟨fd_moves_of, D_moves_of⟩ := def_in (x := "moves_of") (st := s_moves_of) X G c 13 13 rfl rfl
  obtain ⟨fd_after_of, D_after_of⟩ := def_in (x := "after_of") (st := s_after_of) X G c 14 14 rfl rfl
  obtain ⟨fd_next_ones, D_next_ones⟩ := def_in (x := "next_ones") (st := s_next_ones) X G c 15 15 rfl rfl
  obtain ⟨fd_reach_of, D_reach_of⟩ := def_in (x := "reach_of") (st := s_reach_of) X G c 16 16 rfl rfl
  obtain ⟨fd_reach, D_reach⟩ := def_in (x := "reach") (st := s_reach) X G c 17 17 rfl rfl
  obtain ⟨fd_rank_by, D_rank_by⟩ := def_in (x := "rank_by") (st := s_rank_by) X G c 18 18 rfl rfl
  obtain ⟨fd_ranks_of, D_ranks_of⟩ := def_in (x := "ranks_of") (st := s_ranks_of) X G c 19 19 rfl rfl
  obtain ⟨fd_ranks, D_ranks⟩ := def_in (x := "ranks") (st := s_ranks) X G c 20 20 rfl rfl
  obtain ⟨fd_is_rank, D_is_rank⟩ := def_in (x := "is_rank") (st := s_is_rank) X G c 21 21 rfl rfl
  obtain ⟨fd_check_paper, D_check_paper⟩ := def_in (x := "check_paper") (st := s_check_paper) X G c 22 22 rfl rfl
  obtain ⟨fd_ranks_hold, D_ranks_hold⟩ := def_in (x := "ranks_hold") (st := s_ranks_hold) X G c 23 23 rfl rfl
  obtain ⟨fd_win_move, D_win_move⟩ := def_in (x := "win_move") (st := s_win_move) X G c 24 24 rfl rfl
  obtain ⟨fd_check_side, D_check_side⟩ := def_in (x := "check_side") (st := s_check_side) X G c 25 25 rfl rfl
  obtain ⟨fd_stay, D_stay⟩ := def_in (x := "stay") (st := s_stay) X G c 26 26 rfl rfl
  obtain ⟨fd_stays_on, D_stays_on⟩ := def_in (x := "stays_on") (st := s_stays_on) X G c 27 27 rfl rfl
  obtain ⟨fd_stay_holds, D_stay_holds⟩ := def_in (x := "stay_holds") (st := s_stay_holds) X G c 28 28 rfl rfl
  obtain ⟨fd_stay_move, D_stay_move⟩ := def_in (x := "stay_move") (st := s_stay_move) X G c 29 29 rfl rfl
  obtain ⟨fd_rising, D_rising⟩ := def_in (x := "rising") (st := s_rising) X G c 30 30 rfl rfl
  obtain ⟨fd_is_step, D_is_step⟩ := def_in (x := "is_step") (st := s_is_step) X G c 31 31 rfl rfl
  obtain ⟨fd_is_kind, D_is_kind⟩ := def_in (x := "is_kind") (st := s_is_kind) X G c 32 32 rfl rfl
  obtain ⟨fd_law_cell_at, D_law_cell_at⟩ := def_in (x := "_law_cell_at") (st := s_law_cell_at) X G c 33 33 rfl rfl
  obtain ⟨fd_law_asked, D_law_asked⟩ := def_in (x := "_law_asked") (st := s_law_asked) X G c 34 34 rfl rfl
  obtain ⟨fd_law_kind, D_law_kind⟩ := def_in (x := "_law_kind") (st := s_law_kind) X G c 35 35 rfl rfl
  obtain ⟨fd_law, D_law⟩ := def_in (x := "law") (st := s_law) X G c 36 36 rfl rfl
  obtain ⟨fA_Yard_ini, fd_Yard_ini, D_Yard_ini⟩ := init_in (x := "Yard") (q := "Yard.__init__") (st := s_Yard_ini) X G c 37 60 62 rfl rfl rfl
  obtain ⟨fA_Yard_on_board, fd_Yard_on_board, D_Yard_on_board⟩ := meth_in (x := "Yard") (nm := "on_board") (q := "Yard.on_board") (st := s_Yard_on_board) X G c 38 60 61 38 rfl rfl rfl rfl
  obtain ⟨fA_Yard_is_free, fd_Yard_is_free, D_Yard_is_free⟩ := meth_in (x := "Yard") (nm := "is_free") (q := "Yard.is_free") (st := s_Yard_is_free) X G c 39 60 61 39 rfl rfl rfl rfl
  obtain ⟨fA_Yard_cells, fd_Yard_cells, D_Yard_cells⟩ := meth_in (x := "Yard") (nm := "cells") (q := "Yard.cells") (st := s_Yard_cells) X G c 40 60 61 40 rfl rfl rfl rfl
  refine ⟨fd_law, D_law, xt.2, fun base => ?_⟩
  have C_rising := ok_rising (P := P) (w := w) (base := base) T D_rising
  have C_Yard_on_board := ok_Yard_on_board (P := P) (w := w) (base := base) T D_Yard_on_board
  have C_is_step := ok_is_step (P := P) (w := w) (base := base) T D_is_step
  have C_is_kind := ok_is_kind (P := P) (w := w) (base := base) T D_is_kind C_rising C_is_step
  have C_Yard_is_free := ok_Yard_is_free (P := P) (w := w) (base := base) T D_Yard_is_free C_Yard_on_board
  have C_Yard_ini := ok_Yard_ini (P := P) (w := w) (base := base) T D_Yard_ini C_rising C_is_kind C_Yard_on_board C_Yard_is_free
  have C_law_cell_at := ok_law_cell_at (P := P) (w := w) (base := base) T D_law_cell_at
  have C_is_piece := ok_is_piece (P := P) (w := w) (base := base) T D_is_piece C_Yard_is_free
  have C_crowns := ok_crowns (P := P) (w := w) (base := base) T D_crowns
  have C_is_position := ok_is_position (P := P) (w := w) (base := base) T D_is_position C_is_piece C_crowns
  have C_check_position := ok_check_position (P := P) (w := w) (base := base) T D_check_position C_is_position
  have C_after_of := ok_after_of (P := P) (w := w) (base := base) T D_after_of
  have C_on_goal := ok_on_goal (P := P) (w := w) (base := base) T D_on_goal C_crowns
  have C_turned_step := ok_turned_step (P := P) (w := w) (base := base) T D_turned_step
  have C_piece_at := ok_piece_at (P := P) (w := w) (base := base) T D_piece_at
  have C_may_end := ok_may_end (P := P) (w := w) (base := base) T D_may_end C_piece_at C_Yard_is_free
  have C_gone := ok_gone (P := P) (w := w) (base := base) T D_gone
  have C_ride := ok_ride (P := P) (w := w) (base := base) T D_ride C_piece_at C_gone C_may_end
  have C_ways_of := ok_ways_of (P := P) (w := w) (base := base) T D_ways_of C_turned_step C_gone C_may_end C_ride
  have C_all_ways := ok_all_ways (P := P) (w := w) (base := base) T D_all_ways C_ways_of
  have C_verdict_of := ok_verdict_of (P := P) (w := w) (base := base) T D_verdict_of C_crowns C_all_ways C_on_goal
  have C_moves_of := ok_moves_of (P := P) (w := w) (base := base) T D_moves_of C_all_ways C_verdict_of
  have C_next_ones := ok_next_ones (P := P) (w := w) (base := base) T D_next_ones C_moves_of C_after_of
  have C_reach_of := ok_reach_of (P := P) (w := w) (base := base) T D_reach_of C_next_ones
  have C_reach := ok_reach (P := P) (w := w) (base := base) T D_reach C_check_position C_reach_of
  have C_rank_by := ok_rank_by (P := P) (w := w) (base := base) T D_rank_by
  have C_ranks_of := ok_ranks_of (P := P) (w := w) (base := base) T D_ranks_of C_verdict_of C_rank_by
  have C_ranks := ok_ranks (P := P) (w := w) (base := base) T D_ranks C_check_position C_reach_of C_ranks_of
  have C_win_move := ok_win_move (P := P) (w := w) (base := base) T D_win_move C_check_position C_moves_of C_after_of
  have C_check_side := ok_check_side (P := P) (w := w) (base := base) T D_check_side
  have C_stay := ok_stay (P := P) (w := w) (base := base) T D_stay C_check_position C_reach_of C_ranks_of C_check_side
  have C_stays_on := ok_stays_on (P := P) (w := w) (base := base) T D_stays_on C_verdict_of C_next_ones
  have C_stay_holds := ok_stay_holds (P := P) (w := w) (base := base) T D_stay_holds C_is_position C_check_position C_check_side C_stays_on
  have C_stay_move := ok_stay_move (P := P) (w := w) (base := base) T D_stay_move C_check_position C_moves_of C_after_of
  have C_is_rank := ok_is_rank (P := P) (w := w) (base := base) T D_is_rank
  have C_check_paper := ok_check_paper (P := P) (w := w) (base := base) T D_check_paper C_is_position C_is_rank
  have C_ranks_hold := ok_ranks_hold (P := P) (w := w) (base := base) T D_ranks_hold C_verdict_of C_next_ones C_rank_by C_check_paper
  have C_law_asked := ok_law_asked (P := P) (w := w) (base := base) T D_law_asked C_reach C_ranks C_ranks_hold C_win_move C_stay C_stay_holds C_stay_move
  have C_law_kind := ok_law_kind (P := P) (w := w) (base := base) T D_law_kind C_law_asked
  exact ok_law T D_law C_ranks_hold C_stay_holds C_law_cell_at C_law_kind C_Yard_ini
end
end DL
section
namespace DL
open PySem PySem.Spec L2
open PyProof.Rows hiding St

/-! ### the monad run at a state -/
section
variable {α β : Type} {ρ : DL.Env}
@[simp] theorem pureM_ap (x : α) : pureM x ρ = .ok x ρ := rfl
@[simp] theorem bindM_ap (a : M α) (k : α → M β) : bindM a k ρ = (match a ρ with | .ok x ρ' => k x ρ' | .exc c ρ' => .exc c ρ' | .stuck => .stuck) := rfl
@[simp] theorem stuckM_ap : (stuckM : M α) ρ = .stuck := rfl
@[simp] theorem liftM_some (x : α) : liftM (some x) ρ = .ok x ρ := rfl
@[simp] theorem liftM_none : liftM (none : Option α) ρ = .stuck := rfl
@[simp] theorem getM_ap (i : Nat) : getM i ρ = (match ρ[i]? with | some (.d x) => .ok x ρ | _ => .stuck) := rfl
@[simp] theorem rdM_ap (i : Nat) : rdM i ρ = (match ρ[i]? with | some (.d x) => .ok x ρ | some (.cell c) => .ok (ocD c) (ρ.set i (.d (ocD c))) | _ => .stuck) := rfl
@[simp] theorem ocD_l (xs : List D) : ocD (.l xs) = .lst xs := rfl
@[simp] theorem ocD_k (ks vs : List D) : ocD (.k ks vs) = .dic ks vs := rfl
@[simp] theorem getO_ap (i : Nat) : getO i ρ = (match ρ[i]? with | some (.cell (.l xs)) => .ok xs ρ | _ => .stuck) := rfl
@[simp] theorem putO_ap (i : Nat) (xs : List D) : putO i xs ρ = .ok () (ρ.set i (.own xs)) := rfl
@[simp] theorem haveS_ap (i : Nat) : haveS i ρ = (match ρ[i]? with | some (.cell _) => .ok () ρ | some (.exn _) => .ok () ρ | _ => .stuck) := rfl
@[simp] theorem op2_ap (g : D → D → Option D) (fa fb : M D) : op2 g fa fb ρ = (match fa ρ with | .ok x ρ1 => (match fb ρ1 with | .ok y ρ2 => liftM (g x y) ρ2 | .exc c ρ' => .exc c ρ' | .stuck => .stuck) | .exc c ρ' => .exc c ρ' | .stuck => .stuck) := by
  unfold op2 bindM
  cases fa ρ with
  | ok x r1 =>
    dsimp only
    cases fb r1 <;> rfl
  | _ => rfl
@[simp] theorem opO_ap (i : Nat) (g : List D → D → Option D) (fb : M D) : opO i g fb ρ = (match fb ρ with | .ok y ρ1 => (match getO i ρ1 with | .ok xs ρ2 => liftM (g xs y) ρ2 | .exc c ρ' => .exc c ρ' | .stuck => .stuck) | .exc c ρ' => .exc c ρ' | .stuck => .stuck) := by
  unfold opO bindM
  cases fb ρ with
  | ok x r1 =>
    dsimp only
    cases getO i r1 <;> rfl
  | _ => rfl
@[simp] theorem boolM_ap (f : M D) : boolM f ρ = (match f ρ with | .ok (.bl b) ρ' => .ok b ρ' | .ok _ _ => .stuck | .exc c ρ' => .exc c ρ' | .stuck => .stuck) := by
  unfold boolM bindM
  cases e : f ρ with
  | ok d ρ' => cases d <;> rfl
  | _ => rfl
@[simp] theorem andM_ap (f g : M Bool) : andM f g ρ = (match f ρ with | .ok true ρ' => g ρ' | .ok false ρ' => .ok false ρ' | .exc c ρ' => .exc c ρ' | .stuck => .stuck) := by
  unfold andM bindM
  cases e : f ρ with
  | ok d ρ' => cases d <;> rfl
  | _ => rfl
@[simp] theorem orM_ap (f g : M Bool) : orM f g ρ = (match f ρ with | .ok true ρ' => .ok true ρ' | .ok false ρ' => g ρ' | .exc c ρ' => .exc c ρ' | .stuck => .stuck) := by
  unfold orM bindM
  cases e : f ρ with
  | ok d ρ' => cases d <;> rfl
  | _ => rfl
@[simp] theorem notM_ap (f : M Bool) : notM f ρ = (match f ρ with | .ok b ρ' => .ok (!b) ρ' | .exc c ρ' => .exc c ρ' | .stuck => .stuck) := by
  unfold notM bindM
  cases f ρ <;> rfl
@[simp] theorem andV_ap (f g : M D) : andV f g ρ = (match f ρ with | .ok (.bl true) ρ' => g ρ' | .ok (.bl false) ρ' => .ok (.bl false) ρ' | .ok _ _ => .stuck | .exc c ρ' => .exc c ρ' | .stuck => .stuck) := by
  unfold andV bindM
  cases e : f ρ with
  | ok d ρ' => cases d with
    | bl b => cases b <;> rfl
    | _ => rfl
  | _ => rfl
@[simp] theorem orV_ap (f g : M D) : orV f g ρ = (match f ρ with | .ok (.bl true) ρ' => .ok (.bl true) ρ' | .ok (.bl false) ρ' => g ρ' | .ok _ _ => .stuck | .exc c ρ' => .exc c ρ' | .stuck => .stuck) := by
  unfold orV bindM
  cases e : f ρ with
  | ok d ρ' => cases d with
    | bl b => cases b <;> rfl
    | _ => rfl
  | _ => rfl
@[simp] theorem notV_ap (f : M D) : notV f ρ = (match f ρ with | .ok (.bl b) ρ' => .ok (.bl (!b)) ρ' | .ok _ _ => .stuck | .exc c ρ' => .exc c ρ' | .stuck => .stuck) := by
  unfold notV bindM
  cases e : f ρ with
  | ok d ρ' => cases d <;> rfl
  | _ => rfl
@[simp] theorem isN_ap (f : M D) : isN f ρ = (match f ρ with | .ok d ρ' => .ok (.bl (isNb d)) ρ' | .exc c ρ' => .exc c ρ' | .stuck => .stuck) := by
  unfold isN bindM
  cases f ρ <;> rfl
@[simp] theorem notN_ap (f : M D) : notN f ρ = (match f ρ with | .ok d ρ' => .ok (.bl (!isNb d)) ρ' | .exc c ρ' => .exc c ρ' | .stuck => .stuck) := by
  unfold notN bindM
  cases f ρ <;> rfl
@[simp] theorem negM_ap (f : M D) : negM f ρ = (match f ρ with | .ok (.int i) ρ' => .ok (.int (-i)) ρ' | .ok _ _ => .stuck | .exc c ρ' => .exc c ρ' | .stuck => .stuck) := by
  unfold negM bindM
  cases e : f ρ with
  | ok d ρ' => cases d <;> rfl
  | _ => rfl
@[simp] theorem iteM_ap (c : M Bool) (f g : M α) : iteM c f g ρ = (match c ρ with | .ok true ρ' => f ρ' | .ok false ρ' => g ρ' | .exc c ρ' => .exc c ρ' | .stuck => .stuck) := by
  unfold iteM bindM
  cases e : c ρ with
  | ok d ρ' => cases d <;> rfl
  | _ => rfl
@[simp] theorem consM_ap (f : M D) (g : M (List D)) : consM f g ρ = (match f ρ with | .ok x ρ1 => (match g ρ1 with | .ok xs ρ2 => .ok (x :: xs) ρ2 | .exc c ρ' => .exc c ρ' | .stuck => .stuck) | .exc c ρ' => .exc c ρ' | .stuck => .stuck) := by
  unfold consM bindM
  cases f ρ with
  | ok x r1 =>
    dsimp only
    cases g r1 <;> rfl
  | _ => rfl
@[simp] theorem consA_ap (f : M D) (g : M (List Ag)) : consA f g ρ = (match f ρ with | .ok x ρ1 => (match g ρ1 with | .ok xs ρ2 => .ok (.d x :: xs) ρ2 | .exc c ρ' => .exc c ρ' | .stuck => .stuck) | .exc c ρ' => .exc c ρ' | .stuck => .stuck) := by
  unfold consA bindM
  cases f ρ with
  | ok x r1 =>
    dsimp only
    cases g r1 <;> rfl
  | _ => rfl
@[simp] theorem consS_ap (i : Nat) (g : M (List Ag)) : consS i g ρ = (match g ρ with | .ok xs ρ2 => .ok (.sl i :: xs) ρ2 | .exc c ρ' => .exc c ρ' | .stuck => .stuck) := by
  unfold consS bindM
  cases g ρ <;> rfl
@[simp] theorem lstM_ap (f : M (List D)) : lstM f ρ = (match f ρ with | .ok xs ρ2 => .ok (.lst xs) ρ2 | .exc c ρ' => .exc c ρ' | .stuck => .stuck) := by
  unfold lstM bindM
  cases f ρ <;> rfl
@[simp] theorem sizeM_ap (f : M (List D)) : sizeM f ρ = (match f ρ with | .ok xs ρ2 => if xs.length ≤ sizeLine then .ok xs ρ2 else .stuck | .exc c ρ' => .exc c ρ' | .stuck => .stuck) := by
  unfold sizeM bindM
  cases e : f ρ with
  | ok d ρ' =>
    show (if d.length ≤ sizeLine then pureM d else stuckM) ρ' = if d.length ≤ sizeLine then .ok d ρ' else .stuck
    split <;> rfl
  | _ => rfl
@[simp] theorem tupM_ap (f : M (List D)) : tupM f ρ = (match f ρ with | .ok xs ρ2 => if xs.length ≤ sizeLine then .ok (.tup xs) ρ2 else .stuck | .exc c ρ' => .exc c ρ' | .stuck => .stuck) := by
  unfold tupM bindM
  rw [sizeM_ap]
  cases e : f ρ with
  | ok d ρ' =>
    dsimp only
    by_cases h : d.length ≤ sizeLine
    · simp only [h, if_true]; rfl
    · simp only [h, if_false]
  | _ => rfl
@[simp] theorem callD_ap (g : List D → Option D) (f : M (List D)) : callD g f ρ = (match f ρ with | .ok xs ρ2 => liftM (g xs) ρ2 | .exc c ρ' => .exc c ρ' | .stuck => .stuck) := by
  unfold callD bindM
  cases f ρ <;> rfl
@[simp] theorem callO_ap (g : List D → Option (List D)) (f : M (List D)) : callO g f ρ = (match f ρ with | .ok xs ρ2 => liftM (g xs) ρ2 | .exc c ρ' => .exc c ρ' | .stuck => .stuck) := by
  unfold callO bindM
  cases f ρ <;> rfl
@[simp] theorem itemsM_ap (f : M D) : itemsM f ρ = (match f ρ with | .ok d ρ2 => liftM (itemsOf d) ρ2 | .exc c ρ' => .exc c ρ' | .stuck => .stuck) := by
  unfold itemsM bindM
  cases f ρ <;> rfl
@[simp] theorem rg1M_ap (f : M (List D)) : rg1M f ρ = (match f ρ with | .ok d ρ2 => liftM (rg1 d) ρ2 | .exc c ρ' => .exc c ρ' | .stuck => .stuck) := by
  unfold rg1M bindM
  cases f ρ <;> rfl
@[simp] theorem rg2M_ap (f : M (List D)) : rg2M f ρ = (match f ρ with | .ok d ρ2 => liftM (rg2 d) ρ2 | .exc c ρ' => .exc c ρ' | .stuck => .stuck) := by
  unfold rg2M bindM
  cases f ρ <;> rfl
@[simp] theorem isiM_ap (T : String) (f : M D) : isiM T f ρ = (match f ρ with | .ok d ρ2 => liftM ((isTy T d).map D.bl) ρ2 | .exc c ρ' => .exc c ρ' | .stuck => .stuck) := by
  unfold isiM bindM
  cases f ρ <;> rfl
@[simp] theorem lenO_ap (i : Nat) : lenO i ρ = (match ρ[i]? with | some (.cell (.l xs)) => .ok (.int xs.length) ρ | _ => .stuck) := by
  unfold lenO
  rw [bindM_ap, getO_ap]
  cases e : ρ[i]? with
  | none => rfl
  | some s =>
    match s with
    | .cell (.l _) => rfl
    | .cell (.k _ _) => rfl
    | .no => rfl
    | .d _ => rfl
    | .exn _ => rfl
@[simp] theorem mtV_ap (T : String) (g : D → List D → Option D) (fo : M D) (fa : M (List D)) : mtV T g fo fa ρ = (match fo ρ with | .ok d ρ1 => if tyD T d = true then (match fa ρ1 with | .ok xs ρ2 => liftM (g d xs) ρ2 | .exc c ρ' => .exc c ρ' | .stuck => .stuck) else .stuck | .exc c ρ' => .exc c ρ' | .stuck => .stuck) := by
  unfold mtV tyM bindM
  cases e : fo ρ with
  | ok d ρ1 =>
    dsimp only
    by_cases h : tyD T d = true
    · simp only [h, if_true, pureM_ap]
      cases fa ρ1 <;> rfl
    · simp only [h]; rfl
  | _ => rfl
@[simp] theorem mtO_ap (i : Nat) (g : List D → List D → Option (D × List D)) (f : M (List D)) : mtO i g f ρ = (match getO i ρ with | .ok _ ρ0 => (match f ρ0 with | .ok ds ρ1 => (match getO i ρ1 with | .ok xs ρ2 => (match g xs ds with | some z => .ok z.1 (ρ2.set i (.own z.2)) | none => .stuck) | .exc c ρ' => .exc c ρ' | .stuck => .stuck) | .exc c ρ' => .exc c ρ' | .stuck => .stuck) | .exc c ρ' => .exc c ρ' | .stuck => .stuck) := by
  unfold mtO
  simp only [bindM_ap]
  cases e : getO i ρ with
  | ok x ρ0 =>
    dsimp only
    cases e2 : f ρ0 with
    | ok ds ρ1 =>
      dsimp only
      cases e3 : getO i ρ1 with
      | ok xs ρ2 =>
        dsimp only
        cases g xs ds <;> rfl
      | _ => rfl
    | _ => rfl
  | _ => rfl
/-! statements -/
@[simp] theorem seqM_ap (a b : MS) : seqM a b ρ = (match a ρ with | .ok .nx ρ' => b ρ' | r => r) := rfl
@[simp] theorem skipM_ap : skipM ρ = .ok .nx ρ := rfl
@[simp] theorem setM_ap (i : Nat) (f : M D) : setM i f ρ = (match f ρ with | .ok d ρ' => .ok .nx (ρ'.set i (.d d)) | .exc c ρ' => .exc c ρ' | .stuck => .stuck) := by
  unfold setM bindM
  cases f ρ <;> rfl
@[simp] theorem setOM_ap (i : Nat) (f : M (List D)) : setOM i f ρ = (match f ρ with | .ok d ρ' => .ok .nx (ρ'.set i (.own d)) | .exc c ρ' => .exc c ρ' | .stuck => .stuck) := by
  unfold setOM bindM
  cases f ρ <;> rfl
@[simp] theorem dropM_ap (f : M D) : dropM f ρ = (match f ρ with | .ok d ρ' => .ok .nx ρ' | .exc c ρ' => .exc c ρ' | .stuck => .stuck) := by
  unfold dropM bindM
  cases f ρ <;> rfl
@[simp] theorem retM_ap (f : M D) : retM f ρ = (match f ρ with | .ok d ρ' => .ok (.ret d) ρ' | .exc c ρ' => .exc c ρ' | .stuck => .stuck) := by
  unfold retM bindM
  cases f ρ <;> rfl
@[simp] theorem retOM_ap (f : M (List D)) : retOM f ρ = (match f ρ with | .ok d ρ' => .ok (.ret (.lst d)) ρ' | .exc c ρ' => .exc c ρ' | .stuck => .stuck) := by
  unfold retOM bindM
  cases f ρ <;> rfl
@[simp] theorem ifM_ap (c : M Bool) (a b : MS) : ifM c a b ρ = (match c ρ with | .ok true ρ' => a ρ' | .ok false ρ' => b ρ' | .exc c ρ' => .exc c ρ' | .stuck => .stuck) := by
  unfold ifM bindM
  cases e : c ρ with
  | ok d ρ' => cases d <;> rfl
  | _ => rfl
@[simp] theorem raiseM_ap (c : Str) : raiseM c ρ = .exc c ρ := rfl
@[simp] theorem giveM_ap (i : Nat) : giveM i ρ = (match ρ[i]? with | some (.cell (.l xs)) => .ok xs (ρ.set i .no) | _ => .stuck) := by
  unfold giveM
  rw [bindM_ap, getO_ap]
  cases e : ρ[i]? with
  | none => rfl
  | some s =>
    match s with
    | .cell (.l _) => rfl
    | .cell (.k _ _) => rfl
    | .no => rfl
    | .d _ => rfl
    | .exn _ => rfl
@[simp] theorem setIM_ap (i : Nat) (fk fe : M D) : setIM i fk fe ρ = (match fe ρ with | .ok d ρ1 => (match getO i ρ1 with | .ok _ ρ2 => (match fk ρ2 with | .ok z ρ3 => (match getO i ρ3 with | .ok xs ρ4 => (match ixSet xs z d with | some ys => .ok .nx (ρ4.set i (.own ys)) | none => .stuck) | .exc c ρ' => .exc c ρ' | .stuck => .stuck) | .exc c ρ' => .exc c ρ' | .stuck => .stuck) | .exc c ρ' => .exc c ρ' | .stuck => .stuck) | .exc c ρ' => .exc c ρ' | .stuck => .stuck) := by
  unfold setIM
  simp only [bindM_ap]
  cases e : fe ρ with
  | ok d ρ1 =>
    dsimp only
    cases e2 : getO i ρ1 with
    | ok x ρ2 =>
      dsimp only
      cases e3 : fk ρ2 with
      | ok z ρ3 =>
        dsimp only
        cases e4 : getO i ρ3 with
        | ok xs ρ4 =>
          dsimp only
          cases ixSet xs z d <;> rfl
        | _ => rfl
      | _ => rfl
    | _ => rfl
  | _ => rfl
@[simp] theorem forD_ap (it : M (List D)) (tg : TgF) (body : MS) : forD it tg body ρ = (match it ρ with | .ok xs ρ' => forM tg body xs ρ' | .exc c ρ' => .exc c ρ' | .stuck => .stuck) := by
  unfold forD bindM
  cases it ρ <;> rfl
@[simp] theorem asgM_ap (f : M D) (t : TgF) : asgM f t ρ = (match f ρ with | .ok d ρ' => (match t d ρ' with | some ρ2 => .ok .nx ρ2 | none => .stuck) | .exc c ρ' => .exc c ρ' | .stuck => .stuck) := by
  unfold asgM bindM
  cases f ρ <;> rfl
@[simp] theorem tgN_ap (i : Nat) (d : D) : tgN i d ρ = some (ρ.set i (.d d)) := rfl
@[simp] theorem callM_ap (f : Fn) (fa : M (List Ag)) : callM f fa ρ = (match fa ρ with | .ok ags ρ1 => if (slots ags).Nodup then (match f (ags.map (toSl ρ1)) with | .ok d os => .ok d (putBack ags os ρ1) | .exc c os => .exc c (putBack ags os ρ1) | .stuck => .stuck) else .stuck | .exc c ρ' => .exc c ρ' | .stuck => .stuck) := by
  unfold callM bindM
  cases fa ρ <;> rfl
@[simp] theorem callL_ap (f : Fn) (fa : M (List Ag)) : callL f fa ρ = (match callM f fa ρ with | .ok (.lst ds) ρ' => .ok ds ρ' | .ok _ _ => .stuck | .exc c ρ' => .exc c ρ' | .stuck => .stuck) := by
  unfold callL
  rw [bindM_ap]
  cases e : callM f fa ρ with
  | ok d ρ' => cases d <;> rfl
  | _ => rfl
@[simp] theorem mdM_ap (md : List Bool) (fa : M (List Ag)) : mdM md fa ρ = (match fa ρ with | .ok ags ρ1 => if (ags.map (toSl ρ1)).map isOwn = md then .ok ags ρ1 else .stuck | .exc c ρ' => .exc c ρ' | .stuck => .stuck) := by
  unfold mdM bindM
  cases fa ρ <;> rfl
@[simp] theorem exnM_ap (i : Nat) (g : Str → Option Bool) : exnM i g ρ = (match ρ[i]? with | some (.exn c) => (match g c with | some b => .ok (.bl b) ρ | none => .stuck) | _ => .stuck) := rfl
@[simp] theorem tryM_ap (i : Nat) (sub : Str → Option Bool) (body : MS) (suite : Str → MS) : tryM i sub body suite ρ = (match body ρ with
  | .exc c ρ1 => (match sub c with
    | some true => (match suite c (ρ1.set i (.exn c)) with
      | .ok fl ρ2 => if noExn (ρ2.set i .no) = true then .ok fl (ρ2.set i .no) else .stuck
      | _ => .stuck)
    | some false => .exc c ρ1
    | none => .stuck)
  | r => r) := by
  unfold tryM
  cases e : body ρ <;> rfl
end
@[simp] theorem fnM_ap (rm : Bool) (n : Nat) (body : MS) (ρ : DL.Env) : fnM rm n body ρ = (match body (ρ ++ List.replicate (n - ρ.length) .no) with
  | .ok .nx ρ' => if rm = true then .stuck else .ok .non (collect ρ ρ')
  | .ok (.ret d) ρ' => .ok d (collect ρ ρ')
  | .exc c ρ' => .exc c (collect ρ ρ')
  | _ => .stuck) := by
  unfold fnM
  cases e : body (ρ ++ List.replicate (n - ρ.length) .no) with
  | ok fl ρ' => cases fl <;> rfl
  | _ => rfl
@[simp] theorem toSl_d (ρ : DL.Env) (x : D) : toSl ρ (.d x) = .d x := rfl
@[simp] theorem toSl_s (ρ : DL.Env) (i : Nat) : toSl ρ (.sl i) = ρ.getD i .no := rfl
@[simp] theorem slots_nil : slots [] = [] := rfl
@[simp] theorem slots_d (x : D) (r : List Ag) : slots (.d x :: r) = slots r := rfl
@[simp] theorem slots_s (i : Nat) (r : List Ag) : slots (.sl i :: r) = i :: slots r := rfl
@[simp] theorem isOwn_d (x : D) : isOwn (.d x) = false := rfl
@[simp] theorem isOwn_o (x : OC) : isOwn (.cell x) = true := rfl
@[simp] theorem isOwn_e (c : Str) : isOwn (.exn c) = false := rfl
@[simp] theorem putBack_nil (os : List OC) (ρ : DL.Env) : putBack [] os ρ = ρ := rfl
@[simp] theorem putBack_d (x : D) (r : List Ag) (os : List OC) (ρ : DL.Env) : putBack (.d x :: r) os ρ = putBack r os ρ := rfl
@[simp] theorem collect_nil (b : DL.Env) : collect [] b = [] := by cases b <;> rfl
@[simp] theorem collect_d (x : D) (a : DL.Env) (s : Sl) (b : DL.Env) : collect (.d x :: a) (s :: b) = collect a b := by cases s <;> rfl
@[simp] theorem collect_o (x : OC) (a : DL.Env) (y : OC) (b : DL.Env) : collect (.cell x :: a) (.cell y :: b) = y :: collect a b := rfl
@[simp] theorem collect_e (c : Str) (a : DL.Env) (s : Sl) (b : DL.Env) : collect (.exn c :: a) (s :: b) = collect a b := by cases s <;> rfl
/-! ### values -/
@[simp] theorem le_size (n : Nat) (h : n ≤ 1000) : n ≤ sizeLine := by rw [sizeLine_eq]; omega
@[simp] theorem okD_non : okD .non = true := by decide
@[simp] theorem okD_bl (b : Bool) : okD (.bl b) = true := by cases b <;> decide
@[simp] theorem okD_int (i : Int) : okD (.int i) = true := by simp [okD, toPy, SeqAt.shaped, PyData.canLay0, PyData.depth]
@[simp] theorem eqv_int (i j : Int) : eqvD (.int i) (.int j) = decide (i = j) := by rw [Bool.eq_iff_iff]; simp [eqvD, toPy, PyData.eqv]
@[simp] theorem eqv_bl (i j : Bool) : eqvD (.bl i) (.bl j) = decide (i = j) := by rw [Bool.eq_iff_iff]; simp [eqvD, toPy, PyData.eqv]
@[simp] theorem eqv_str (i j : Str) : eqvD (.str i) (.str j) = decide (i = j) := by rw [Bool.eq_iff_iff]; simp [eqvD, toPy, PyData.eqv]
theorem eqD_ok {a b : D} (ha : okD a = true) (hb : okD b = true) : eqD a b = some (.bl (eqvD a b)) := by simp [eqD, ha, hb]
theorem neD_ok {a b : D} (ha : okD a = true) (hb : okD b = true) : neD a b = some (.bl (!eqvD a b)) := by simp [neD, ha, hb]
@[simp] theorem eqD_int (i j : Int) : eqD (.int i) (.int j) = some (.bl (decide (i = j))) := by simp [eqD]
@[simp] theorem neD_int (i j : Int) : neD (.int i) (.int j) = some (.bl (!decide (i = j))) := by simp [neD]
@[simp] theorem intD_int (f : Int → Int → Option D) (i j : Int) : intD f (.int i) (.int j) = f i j := rfl
@[simp] theorem subD_int (i j : Int) : subD (.int i) (.int j) = some (.int (i - j)) := rfl
@[simp] theorem addD_int (i j : Int) : addD (.int i) (.int j) = some (.int (i + j)) := rfl
@[simp] theorem ltD_int (i j : Int) : ltD (.int i) (.int j) = some (.bl (decide (i < j))) := rfl
@[simp] theorem leD_int (i j : Int) : leD (.int i) (.int j) = some (.bl (decide (i ≤ j))) := rfl
@[simp] theorem gtD_int (i j : Int) : gtD (.int i) (.int j) = some (.bl (decide (j < i))) := rfl
@[simp] theorem geD_int (i j : Int) : geD (.int i) (.int j) = some (.bl (decide (j ≤ i))) := rfl
@[simp] theorem modD_int (i j : Int) (h : 0 < j) : modD (.int i) (.int j) = some (.int (i % j)) := by simp [modD, h]
@[simp] theorem divD_int (i j : Int) (h : 0 < j) (h2 : j < 1073741824) : divD (.int i) (.int j) = some (.int (i / j)) := by simp [divD, CDiv, h, h2]
theorem mulD_l (i j : Int) (h : -(2 ^ 64) < i) (h2 : i < 2 ^ 64) : mulD (.int i) (.int j) = some (.int (i * j)) := by
  have c : CMul i j := .inl ⟨h, h2⟩
  simp [mulD, c]
end DL
namespace DL
open PySem PySem.Spec L2
open PyProof.Rows hiding St
/-! ### comprehensions of pure items -/
@[simp] theorem plain_no : plain .no = true := rfl
@[simp] theorem plain_d (x : D) : plain (.d x) = true := rfl
/-! ### what == asks of data: signs, depth -/
def layD (d : D) : Bool := (toPy d).canLay0
def dpD (d : D) : Nat := (toPy d).depth
theorem okD_of {d : D} (h : layD d = true) (h2 : dpD d ≤ 64) : okD d = true := by
  unfold okD SeqAt.shaped
  rw [Bool.and_eq_true]
  exact ⟨h, decide_eq_true h2⟩
theorem layD_of {d : D} (h : okD d = true) : layD d = true := SeqAt.canLay_of_shaped h
theorem canAll : ∀ xs : List D, PyData.canLayAll0 (toPyL xs) = xs.all layD
  | [] => rfl
  | x :: xs => by
    show ((toPy x).canLay0 && PyData.canLayAll0 (toPyL xs)) = _
    rw [canAll xs]; rfl
theorem layD_tup (xs : List D) : layD (.tup xs) = xs.all layD := canAll xs
theorem layD_lst (xs : List D) : layD (.lst xs) = xs.all layD := canAll xs
theorem dpL_le {xs : List D} {n : Nat} (h : ∀ x ∈ xs, dpD x ≤ n) : PyData.depthAll (toPyL xs) ≤ n := by
  induction xs with
  | nil => simp [toPyL, PyData.depthAll]
  | cons x xs ih =>
    have h1 := h x List.mem_cons_self
    have h2 := ih fun y hy => h y (List.mem_cons_of_mem _ hy)
    simp only [toPyL, PyData.depthAll]
    unfold dpD at h1
    omega
theorem dpD_tup {xs : List D} {n : Nat} (h : ∀ x ∈ xs, dpD x ≤ n) : dpD (.tup xs) ≤ n + 1 := by
  have := dpL_le h
  unfold dpD
  simp only [toPy, PyData.depth]
  omega
theorem dpD_lst {xs : List D} {n : Nat} (h : ∀ x ∈ xs, dpD x ≤ n) : dpD (.lst xs) ≤ n + 1 := by
  have := dpL_le h
  unfold dpD
  simp only [toPy, PyData.depth]
  omega
@[simp] theorem layD_int (i : Int) : layD (.int i) = true := by simp [layD, toPy, PyData.canLay0]
@[simp] theorem dpD_int (i : Int) : dpD (.int i) = 0 := by simp [dpD, toPy, PyData.depth]
@[simp] theorem dpD_str (i : Str) : dpD (.str i) = 0 := by simp [dpD, toPy, PyData.depth]
@[simp] theorem dpD_bl (i : Bool) : dpD (.bl i) = 0 := by simp [dpD, toPy, PyData.depth]
/-! equality, by parts -/
theorem eqvL : ∀ xs ys : List D, PyData.eqvAll (toPyL xs) (toPyL ys) = (decide (xs.length = ys.length) && (xs.zip ys).all fun p => eqvD p.1 p.2)
  | [], [] => by simp [toPyL, PyData.eqvAll]
  | [], y :: ys => by simp [toPyL, PyData.eqvAll]
  | x :: xs, [] => by simp [toPyL, PyData.eqvAll]
  | x :: xs, y :: ys => by
    simp only [toPyL, PyData.eqvAll, eqvL xs ys, List.zip_cons_cons, List.all_cons, List.length_cons, Nat.add_right_cancel_iff, eqvD]
    cases (toPy x).eqv (toPy y) <;> cases decide (xs.length = ys.length) <;> simp
theorem eqv_lst (xs ys : List D) : eqvD (.lst xs) (.lst ys) = (decide (xs.length = ys.length) && (xs.zip ys).all fun p => eqvD p.1 p.2) := by
  unfold eqvD; simp only [toPy, PyData.eqv]; exact eqvL xs ys
end DL
end
section
namespace DL
open PySem PySem.Spec L2 DLS
open PyProof.Rows hiding St
section
variable {α β : Type} {ρ : DL.Env}
@[simp] theorem itemsGM_ap (f : M D) : itemsGM f ρ = (match f ρ with | .ok d ρ2 => liftM (itemsG d) ρ2 | .exc c ρ' => .exc c ρ' | .stuck => .stuck) := by
  unfold itemsGM bindM
  cases f ρ <;> rfl
theorem fldM_ap (c f : Str) (fo : M D) : fldM c f fo ρ = (match fo ρ with | .ok (.ins c' ns ds) ρ2 => if c' = c then liftM (fldD f ns ds) ρ2 else .stuck | .ok _ _ => .stuck | .exc c ρ' => .exc c ρ' | .stuck => .stuck) := by
  unfold fldM bindM
  cases e : fo ρ with
  | ok d ρ' =>
    cases d with
    | ins c' ns ds =>
      dsimp only
      by_cases h : c' = c
      · simp only [h, if_true]
      · simp only [h, if_false]; rfl
    | _ => rfl
  | _ => rfl
theorem methD_ap (c nm : Str) (md : List Bool) (f : Fn) (fo : M D) (fa : M (List Ag)) : methD c nm md f fo fa ρ = (match fo ρ with | .ok (.ins c' ns ds) ρ2 => if c' = c ∧ nm ∉ ns then callM f (mdM md (bindM fa fun ags => pureM (.d (.ins c' ns ds) :: ags))) ρ2 else .stuck | .ok _ _ => .stuck | .exc c ρ' => .exc c ρ' | .stuck => .stuck) := by
  unfold methD
  rw [bindM_ap]
  cases e : fo ρ with
  | ok d ρ' =>
    cases d with
    | ins c' ns ds =>
      dsimp only
      by_cases h : c' = c ∧ nm ∉ ns
      · simp only [h, not_false_eq_true, and_self, if_true]
      · simp only [h, if_false]; rfl
    | _ => rfl
  | _ => rfl
@[simp] theorem chainM_ap (g g' : D → D → Option D) (fa fb fc : M D) : chainM g g' fa fb fc ρ = (match fa ρ with | .ok x ρ1 => (match fb ρ1 with | .ok y ρ2 => (match g x y with | some (.bl true) => (match fc ρ2 with | .ok z ρ3 => liftM (g' y z) ρ3 | .exc c ρ' => .exc c ρ' | .stuck => .stuck) | some (.bl false) => .ok (.bl false) ρ2 | _ => .stuck) | .exc c ρ' => .exc c ρ' | .stuck => .stuck) | .exc c ρ' => .exc c ρ' | .stuck => .stuck) := by
  unfold chainM
  rw [bindM_ap]
  cases fa ρ with
  | ok x ρ1 =>
    dsimp only
    rw [bindM_ap]
    cases fb ρ1 with
    | ok y ρ2 =>
      dsimp only
      rw [bindM_ap]
      cases g x y with
      | none => rfl
      | some d =>
        cases d with
        | bl b =>
          cases b with
          | true =>
            dsimp only [liftM, pureM]
            rw [bindM_ap]
            cases fc ρ2 <;> rfl
          | false => rfl
        | _ => rfl
    | _ => rfl
  | _ => rfl
@[simp] theorem partM_ap (f : M D) : partM f ρ = (match f ρ with | .ok (.int i) ρ2 => .ok (some i) ρ2 | .ok _ _ => .stuck | .exc c ρ' => .exc c ρ' | .stuck => .stuck) := by
  unfold partM bindM
  cases e : f ρ with
  | ok d ρ' => cases d <;> rfl
  | _ => rfl
@[simp] theorem slM_ap (fe : M D) (fl fh : M (Option Int)) : slM fe fl fh ρ = (match fe ρ with | .ok x ρ1 => (match fl ρ1 with | .ok l ρ2 => (match fh ρ2 with | .ok h ρ3 => liftM (slD l h x) ρ3 | .exc c ρ' => .exc c ρ' | .stuck => .stuck) | .exc c ρ' => .exc c ρ' | .stuck => .stuck) | .exc c ρ' => .exc c ρ' | .stuck => .stuck) := by
  unfold slM bindM
  cases fe ρ with
  | ok x ρ1 =>
    dsimp only
    cases fl ρ1 with
    | ok l ρ2 =>
      dsimp only
      cases fh ρ2 <;> rfl
    | _ => rfl
  | _ => rfl
@[simp] theorem catM_ap (fa fb : M D) : catM fa fb ρ = (match fa ρ with | .ok x ρ1 => (match fb ρ1 with | .ok y ρ2 => liftM (catD x y) ρ2 | .exc c ρ' => .exc c ρ' | .stuck => .stuck) | .exc c ρ' => .exc c ρ' | .stuck => .stuck) := by
  unfold catM bindM
  cases fa ρ with
  | ok x r1 =>
    dsimp only
    cases fb r1 <;> rfl
  | _ => rfl
@[simp] theorem lendM_ap (f : M D) : lendM f ρ = (match f (dataE ρ) with | .ok d _ => if atomD d = true then .ok d ρ else .stuck | _ => .stuck) := rfl
@[simp] theorem lendT_ap (f : M Bool) : lendT f ρ = (match f (dataE ρ) with | .ok b _ => .ok b ρ | _ => .stuck) := rfl
@[simp] theorem dataE_nil : dataE [] = [] := rfl
@[simp] theorem dataE_cons (s : Sl) (r : DL.Env) : dataE (s :: r) = dataS s :: dataE r := rfl
@[simp] theorem dataS_d (x : D) : dataS (.d x) = .d x := rfl
@[simp] theorem dataS_no : dataS .no = .no := rfl
@[simp] theorem dataS_cell (c : OC) : dataS (.cell c) = .d (ocD c) := rfl
@[simp] theorem dataS_exn (c : Str) : dataS (.exn c) = .exn c := rfl
@[simp] theorem getC_ap (i : Nat) : getC i ρ = (match ρ[i]? with | some (.cell c) => .ok c ρ | _ => .stuck) := rfl
@[simp] theorem putC_ap (i : Nat) (c : OC) : putC i c ρ = .ok () (ρ.set i (.cell c)) := rfl
@[simp] theorem setCM_ap (i : Nat) (f : M OC) : setCM i f ρ = (match f ρ with | .ok c ρ' => .ok .nx (ρ'.set i (.cell c)) | .exc c ρ' => .exc c ρ' | .stuck => .stuck) := by
  unfold setCM bindM
  cases f ρ <;> rfl
@[simp] theorem setXM_ap (i : Nat) (f : M D) : setXM i f ρ = (match f ρ with | .ok d ρ' => (match conOf d with | some c => .ok .nx (ρ'.set i (.cell c)) | none => .ok .nx (ρ'.set i (.d d))) | .exc c ρ' => .exc c ρ' | .stuck => .stuck) := by
  unfold setXM bindM
  cases e : f ρ with
  | ok d ρ' => first | (dsimp only; done) | (dsimp only; cases conOf d <;> rfl) | (cases conOf d <;> rfl)
  | _ => rfl
@[simp] theorem conOf_lst (xs : List D) : conOf (.lst xs) = some (.l xs) := rfl
@[simp] theorem conOf_dic (ks vs : List D) : conOf (.dic ks vs) = some (.k ks vs) := rfl
@[simp] theorem conOf_bl (b : Bool) : conOf (.bl b) = none := rfl
@[simp] theorem conOf_int (b : Int) : conOf (.int b) = none := rfl
@[simp] theorem conOf_str (b : Str) : conOf (.str b) = none := rfl
@[simp] theorem conOf_non : conOf .non = none := rfl
@[simp] theorem conOf_tup (xs : List D) : conOf (.tup xs) = none := rfl
@[simp] theorem ocL_ap (f : M (List D)) : ocL f ρ = (match f ρ with | .ok d ρ' => .ok (.l d) ρ' | .exc c ρ' => .exc c ρ' | .stuck => .stuck) := by
  unfold ocL bindM
  cases f ρ <;> rfl
@[simp] theorem ocM_ap (f : M OC) : ocM f ρ = (match f ρ with | .ok d ρ' => .ok (ocD d) ρ' | .exc c ρ' => .exc c ρ' | .stuck => .stuck) := by
  unfold ocM bindM
  cases f ρ <;> rfl
@[simp] theorem consC_ap (f : M OC) (g : M (List Ag)) : consC f g ρ = (match f ρ with | .ok x ρ1 => (match g ρ1 with | .ok xs ρ2 => .ok (.tmp x :: xs) ρ2 | .exc c ρ' => .exc c ρ' | .stuck => .stuck) | .exc c ρ' => .exc c ρ' | .stuck => .stuck) := by
  unfold consC bindM
  cases f ρ with
  | ok x r1 =>
    dsimp only
    cases g r1 <;> rfl
  | _ => rfl
@[simp] theorem retXM_ap (f : M D) : retXM f ρ = (match f ρ with | .ok d ρ' => (match conOf d with | some _ => .stuck | none => .ok (.ret d) ρ') | .exc c ρ' => .exc c ρ' | .stuck => .stuck) := by
  unfold retXM bindM
  cases e : f ρ with
  | ok d ρ' =>
    dsimp only
    cases conOf d <;> rfl
  | _ => rfl
@[simp] theorem giveX_ap (i : Nat) : giveX i ρ = (match ρ[i]? with | some (.cell c) => .ok (ocD c) (ρ.set i .no) | _ => .stuck) := by
  unfold giveX
  rw [bindM_ap, getC_ap]
  cases e : ρ[i]? with
  | none => rfl
  | some s => cases s <;> rfl
@[simp] theorem setGM_ap (g : OC → D → D → Option OC) (i : Nat) (fk fe : M D) : setGM g i fk fe ρ = (match fe ρ with | .ok d ρ1 => (match getC i ρ1 with | .ok _ ρ2 => (match fk ρ2 with | .ok z ρ3 => (match getC i ρ3 with | .ok c ρ4 => (match g c z d with | some c' => .ok .nx (ρ4.set i (.cell c')) | none => .stuck) | .exc c ρ' => .exc c ρ' | .stuck => .stuck) | .exc c ρ' => .exc c ρ' | .stuck => .stuck) | .exc c ρ' => .exc c ρ' | .stuck => .stuck) | .exc c ρ' => .exc c ρ' | .stuck => .stuck) := by
  unfold setGM
  simp only [bindM_ap]
  cases e : fe ρ with
  | ok d ρ1 =>
    dsimp only
    cases e2 : getC i ρ1 with
    | ok x ρ2 =>
      dsimp only
      cases e3 : fk ρ2 with
      | ok z ρ3 =>
        dsimp only
        cases e4 : getC i ρ3 with
        | ok xs ρ4 =>
          dsimp only
          cases g xs z d <;> rfl
        | _ => rfl
      | _ => rfl
    | _ => rfl
  | _ => rfl
@[simp] theorem opC_ap (i : Nat) (g : OC → D → Option D) (fb : M D) : opC i g fb ρ = (match fb ρ with | .ok y ρ1 => (match getC i ρ1 with | .ok xs ρ2 => liftM (g xs y) ρ2 | .exc c ρ' => .exc c ρ' | .stuck => .stuck) | .exc c ρ' => .exc c ρ' | .stuck => .stuck) := by
  unfold opC bindM
  cases fb ρ with
  | ok x r1 =>
    dsimp only
    cases getC i r1 <;> rfl
  | _ => rfl
@[simp] theorem revM_ap (f : M D) : revM f ρ = (match f ρ with | .ok (.lst xs) ρ' => .ok (.lst xs.reverse) ρ' | .ok _ _ => .stuck | .exc c ρ' => .exc c ρ' | .stuck => .stuck) := by
  unfold revM bindM
  cases e : f ρ with
  | ok d ρ' => cases d <;> rfl
  | _ => rfl
@[simp] theorem parM_ap (i j : Nat) (f : M (List D)) : parM i j f ρ = (match f ρ with | .ok [x, y] ρ' => .ok .nx ((ρ'.set i (.d x)).set j (.d y)) | .ok _ _ => .stuck | .exc c ρ' => .exc c ρ' | .stuck => .stuck) := by
  unfold parM bindM
  cases e : f ρ with
  | ok d ρ' =>
    match d with
    | [] => rfl
    | [_] => rfl
    | [_, _] => rfl
    | _ :: _ :: _ :: _ => rfl
  | _ => rfl
@[simp] theorem makeM_ap (n : Nat) (fI : List D → Res D) (fa : M (List D)) : makeM n fI fa ρ = (match fa ρ with | .ok as ρ1 => if as.length = n ∧ noInsL as = true then (match fI as with | .ok d _ => .ok d ρ1 | .exc e _ => .exc e ρ1 | .stuck => .stuck) else .stuck | .exc c ρ' => .exc c ρ' | .stuck => .stuck) := by
  unfold makeM bindM
  cases fa ρ <;> rfl
@[simp] theorem pairsM_nil : pairsM [] ρ = .ok [] ρ := rfl
@[simp] theorem pairsM_cons (fk fv : M D) (r : List (M D × M D)) : pairsM ((fk, fv) :: r) ρ = (match fk ρ with | .ok x ρ1 => (match fv ρ1 with | .ok y ρ2 => (match pairsM r ρ2 with | .ok ps ρ3 => .ok ((x, y) :: ps) ρ3 | .exc c ρ' => .exc c ρ' | .stuck => .stuck) | .exc c ρ' => .exc c ρ' | .stuck => .stuck) | .exc c ρ' => .exc c ρ' | .stuck => .stuck) := by
  show bindM fk _ ρ = _
  rw [bindM_ap]
  cases fk ρ with
  | ok x ρ1 =>
    dsimp only
    rw [bindM_ap]
    cases fv ρ1 with
    | ok y ρ2 =>
      dsimp only
      rw [bindM_ap]
      cases pairsM r ρ2 <;> rfl
    | _ => rfl
  | _ => rfl
@[simp] theorem dicC_ap (fs : List (M D × M D)) : dicC fs ρ = (match pairsM fs ρ with | .ok ps ρ1 => if difK (ps.map (·.1)) = true ∧ ps.length ≤ 15 then .ok (.k (ps.map (·.1)) (ps.map (·.2))) ρ1 else .stuck | .exc c ρ' => .exc c ρ' | .stuck => .stuck) := by
  unfold dicC
  rw [bindM_ap]
  cases e : pairsM fs ρ with
  | ok ps ρ1 =>
    dsimp only
    split <;> rfl
  | _ => rfl
@[simp] theorem dicM_ap (fs : List (M D × M D)) : dicM fs ρ = (match pairsM fs ρ with | .ok ps ρ1 => if difK (ps.map (·.1)) = true ∧ ps.length ≤ 15 then .ok (.dic (ps.map (·.1)) (ps.map (·.2))) ρ1 else .stuck | .exc c ρ' => .exc c ρ' | .stuck => .stuck) := by
  unfold dicM
  rw [bindM_ap]
  cases e : pairsM fs ρ with
  | ok ps ρ1 =>
    dsimp only
    split <;> rfl
  | _ => rfl
@[simp] theorem ifRaise_ap (f : M Bool) (e : Str) : ifRaise f e ρ = (match f ρ with | .ok b ρ' => if iniC ρ' = true then (if b = true then .exc e ρ' else .ok .nx ρ') else .stuck | .exc c ρ' => .exc c ρ' | .stuck => .stuck) := by
  unfold ifRaise atM
  cases h : f ρ with
  | ok b ρ' => cases b <;> rfl
  | _ => rfl
@[simp] theorem setFM_ap (c f : Str) (fe : M D) : setFM c f fe ρ = (match fe ρ with | .ok d ρ' => if iniC ρ' = true then (match (ρ'[0]? : Option Sl) with | some (.d (.ins c' ns ds)) => if c' = c ∧ f ∉ ns ∧ noIns d = true ∧ ns.length < 1000 then .ok .nx (ρ'.set 0 (.d (.ins c' (ns ++ [f]) (ds ++ [d])))) else .stuck | _ => .stuck) else .stuck | .exc c ρ' => .exc c ρ' | .stuck => .stuck) := by
  unfold setFM atM
  cases fe ρ <;> rfl
@[simp] theorem forIfM_ap (i : Nat) (fi : M (List D)) (f : M Bool) (e : Str) : forIfM i fi f e ρ = (match fi ρ with | .ok ds ρ' => if iniC ρ' = true then forIfGo i f e ds ρ' else .stuck | .exc c ρ' => .exc c ρ' | .stuck => .stuck) := by
  unfold forIfM atM
  cases fi ρ <;> rfl
end
@[simp] theorem tgs0_nil (ρ : DL.Env) : tgs0 [] ρ = some ρ := rfl
@[simp] theorem tgs1_cons (t : TgF) (u : TgsF) (d : D) (r : List D) (ρ : DL.Env) : tgs1 t u (d :: r) ρ = (t d ρ).bind (u r) := rfl
@[simp] theorem itemsG_lst (xs : List D) : itemsG (.lst xs) = some xs := rfl
@[simp] theorem itemsG_tup (xs : List D) : itemsG (.tup xs) = some xs := rfl
@[simp] theorem itemsG_dic (ks vs : List D) : itemsG (.dic ks vs) = if ks.all isK = true then some ks else none := rfl
@[simp] theorem toSl_t (ρ : DL.Env) (c : OC) : toSl ρ (.tmp c) = .cell c := rfl
@[simp] theorem slots_t (c : OC) (r : List Ag) : slots (.tmp c :: r) = slots r := rfl
@[simp] theorem putBack_t (c : OC) (r : List Ag) (os : List OC) (ρ : DL.Env) : putBack (.tmp c :: r) os ρ = putBack r (os.drop 1) ρ := rfl
@[simp] theorem collect_n (a : DL.Env) (s : Sl) (b : DL.Env) : collect (.no :: a) (s :: b) = collect a b := by cases s <;> rfl
@[simp] theorem lenG_lst (xs : List D) : lenG [.lst xs] = some (.int xs.length) := rfl
@[simp] theorem lenG_tup (xs : List D) : lenG [.tup xs] = some (.int xs.length) := rfl
@[simp] theorem lenG_dic (ks vs : List D) (h : ks.all isK = true) : lenG [.dic ks vs] = some (.int ks.length) := by simp [lenG, lenD, lenK, h]
@[simp] theorem listCD_lst (xs : List D) : listCD [.lst xs] = some xs := rfl
@[simp] theorem listCD_tup (xs : List D) : listCD [.tup xs] = some xs := rfl
@[simp] theorem tupC_lst (xs : List D) : tupC [.lst xs] = some (.tup xs) := rfl
@[simp] theorem tupC_tup (xs : List D) : tupC [.tup xs] = some (.tup xs) := rfl
theorem boolsOf_map : ∀ bs : List Bool, boolsOf (bs.map D.bl) = some bs
  | [] => rfl
  | b :: bs => by simp [boolsOf, boolsOf_map bs]
@[simp] theorem allD_bl {α : Type} (f : α → Bool) (xs : List α) : allD [.lst (xs.map fun x => D.bl (f x))] = some (.bl (xs.all f)) := by
  have : (xs.map fun x => D.bl (f x)) = (xs.map f).map D.bl := by rw [List.map_map]; rfl
  rw [this]
  show (boolsOf _).map _ = _
  rw [boolsOf_map]
  simp [List.all_map]
@[simp] theorem anyD_bl {α : Type} (f : α → Bool) (xs : List α) : anyD [.lst (xs.map fun x => D.bl (f x))] = some (.bl (xs.any f)) := by
  have : (xs.map fun x => D.bl (f x)) = (xs.map f).map D.bl := by rw [List.map_map]; rfl
  rw [this]
  show (boolsOf _).map _ = _
  rw [boolsOf_map]
  simp [List.any_map]
@[simp] theorem boolsOf_nil : boolsOf [] = some [] := rfl
@[simp] theorem ltA_int (i j : Int) : ltA (.int i) (.int j) = some (.bl (decide (i < j))) := rfl
@[simp] theorem leA_int (i j : Int) : leA (.int i) (.int j) = some (.bl (decide (i ≤ j))) := rfl
@[simp] theorem gtA_int (i j : Int) : gtA (.int i) (.int j) = some (.bl (decide (j < i))) := rfl
@[simp] theorem geA_int (i j : Int) : geA (.int i) (.int j) = some (.bl (decide (j ≤ i))) := rfl
@[simp] theorem ixX_tup (xs : List D) (i : Int) (d : D) (h : atI xs i = some d) : ixX (.tup xs) (.int i) = some d := by simp [ixX, ixG, ixD, h]
@[simp] theorem ixX_lst (xs : List D) (i : Int) (d : D) (h : atI xs i = some d) : ixX (.lst xs) (.int i) = some d := by simp [ixX, ixG, ixD, h]
@[simp] theorem ix2_0 (a b : D) : ixX (.tup [a, b]) (.int 0) = some a := rfl
@[simp] theorem ix2_1 (a b : D) : ixX (.tup [a, b]) (.int 1) = some b := rfl
@[simp] theorem ix3_0 (a b c : D) : ixX (.tup [a, b, c]) (.int 0) = some a := rfl
@[simp] theorem ix3_1 (a b c : D) : ixX (.tup [a, b, c]) (.int 1) = some b := rfl
@[simp] theorem ix3_2 (a b c : D) : ixX (.tup [a, b, c]) (.int 2) = some c := rfl
@[simp] theorem atI_nat {α : Type} (xs : List α) (k : Nat) : atI xs (k : Int) = xs[k]? := by
  unfold atI ixN
  by_cases h : k < xs.length
  · simp [h]
  · have : ¬ ((k : Int) < (xs.length : Int)) := by omega
    simp [this]
    omega
end DL
end
section
namespace DL
open PySem PySem.Spec L2 DLS
open PyProof.Rows hiding St
/-! ### typed data that are keys: numbers, texts, tuples -/
mutual
theorem toPy_nk : ∀ k j : NestedKey, eqvD (nkD k) (nkD j) = decide (k = j)
  | .none, .none => by simp [nkD, eqvD, toPy, PyData.eqv]
  | .num a, .num b => by rw [nkD, nkD, eqv_int]; simp
  | .text a, .text b => by rw [nkD, nkD, eqv_str]; simp
  | .tup ks, .tup js => by
    simp only [nkD, eqvD, toPy, PyData.eqv]
    rw [toPy_nks ks js]
    simp
  | .none, .num _ => by simp [nkD, eqvD, toPy, PyData.eqv]
  | .none, .text _ => by simp [nkD, eqvD, toPy, PyData.eqv]
  | .none, .tup _ => by simp [nkD, eqvD, toPy, PyData.eqv]
  | .num _, .none => by simp [nkD, eqvD, toPy, PyData.eqv]
  | .num _, .text _ => by simp [nkD, eqvD, toPy, PyData.eqv]
  | .num _, .tup _ => by simp [nkD, eqvD, toPy, PyData.eqv]
  | .text _, .none => by simp [nkD, eqvD, toPy, PyData.eqv]
  | .text _, .num _ => by simp [nkD, eqvD, toPy, PyData.eqv]
  | .text _, .tup _ => by simp [nkD, eqvD, toPy, PyData.eqv]
  | .tup _, .none => by simp [nkD, eqvD, toPy, PyData.eqv]
  | .tup _, .num _ => by simp [nkD, eqvD, toPy, PyData.eqv]
  | .tup _, .text _ => by simp [nkD, eqvD, toPy, PyData.eqv]
theorem toPy_nks : ∀ ks js : List NestedKey, PyData.eqvAll (toPyL (nkDs ks)) (toPyL (nkDs js)) = decide (ks = js)
  | [], [] => by simp [nkDs, toPyL, PyData.eqvAll]
  | [], j :: js => by simp [nkDs, toPyL, PyData.eqvAll]
  | k :: ks, [] => by simp [nkDs, toPyL, PyData.eqvAll]
  | k :: ks, j :: js => by
    simp only [nkDs, toPyL, PyData.eqvAll]
    have h1 : PyData.eqv (toPy (nkD k)) (toPy (nkD j)) = decide (k = j) := toPy_nk k j
    rw [h1, toPy_nks ks js]
    simp
end
mutual
/-- texts without odd signs -/
def okN : NestedKey → Bool
  | .none => true
  | .num _ => true
  | .text x => PyData.strOk x
  | .tup ks => okNs ks
def okNs : List NestedKey → Bool
  | [] => true
  | k :: ks => okN k && okNs ks
end
mutual
theorem lay_nk : ∀ k : NestedKey, (toPy (nkD k)).canLay0 = okN k
  | .none => rfl
  | .num _ => rfl
  | .text _ => rfl
  | .tup ks => lay_nks ks
theorem lay_nks : ∀ ks : List NestedKey, PyData.canLayAll0 (toPyL (nkDs ks)) = okNs ks
  | [] => rfl
  | k :: ks => by
    simp only [nkDs, toPyL, PyData.canLayAll0, okNs]
    rw [lay_nk k, lay_nks ks]
end
mutual
theorem dep_nk : ∀ k : NestedKey, (toPy (nkD k)).depth = k.depth
  | .none => rfl
  | .num _ => rfl
  | .text _ => rfl
  | .tup ks => by
    simp only [nkD, toPy, PyData.depth, NestedKey.depth]
    rw [dep_nks ks]
theorem dep_nks : ∀ ks : List NestedKey, PyData.depthAll (toPyL (nkDs ks)) = NestedKey.depthAll ks
  | [] => rfl
  | k :: ks => by
    simp only [nkDs, toPyL, PyData.depthAll, NestedKey.depthAll]
    rw [dep_nk k, dep_nks ks]
end
class Kl (α : Type) where
  nk : α → NestedKey
  inj : ∀ a b, nk a = nk b → a = b
  ok : ∀ a, okN (nk a) = true
  dp : Nat
  dep : ∀ a, (nk a).depth ≤ dp
  le : dp ≤ 8
  alk : ∀ a b, PySem.W.alike (toPy (nkD (nk a))) (toPy (nkD (nk b))) = true
  nn : ∀ a, isNb (nkD (nk a)) = false
  tn : (∀ a, isTup (nkD (nk a)) = true) ∨ (∀ a, notTup (nkD (nk a)) = true)
def enc {α : Type} [Kl α] (a : α) : D := nkD (Kl.nk a)
section
variable {α : Type} [Kl α]
theorem okD_enc (a : α) : okD (enc a) = true := by
  unfold okD SeqAt.shaped enc
  rw [Bool.and_eq_true]
  refine ⟨by rw [lay_nk]; exact Kl.ok a, decide_eq_true ?_⟩
  rw [dep_nk]
  have := Kl.dep a
  have := Kl.le (α := α)
  omega
theorem eqvD_enc [DecidableEq α] (a b : α) : eqvD (enc a) (enc b) = decide (a = b) := by
  unfold enc
  rw [toPy_nk]
  by_cases h : a = b
  · subst h; simp
  · have : ¬ Kl.nk a = Kl.nk b := fun z => h (Kl.inj a b z)
    simp [h, this]
@[simp] theorem eqD_enc [DecidableEq α] (a b : α) : eqD (enc a) (enc b) = some (.bl (decide (a = b))) := by rw [eqD_ok (okD_enc a) (okD_enc b), eqvD_enc]
@[simp] theorem neD_enc [DecidableEq α] (a b : α) : neD (enc a) (enc b) = some (.bl (!decide (a = b))) := by rw [neD_ok (okD_enc a) (okD_enc b), eqvD_enc]
theorem lays_enc (xs : List α) : (xs.map enc).all layD = true := by
  rw [List.all_map, List.all_eq_true]
  intro a _
  exact layD_of (okD_enc a)
theorem dps_enc (xs : List α) : ∀ x ∈ xs.map enc, dpD x ≤ 8 := by
  intro x hx
  obtain ⟨a, _, rfl⟩ := List.mem_map.mp hx
  unfold dpD enc
  rw [dep_nk]
  have := Kl.dep a
  have := Kl.le (α := α)
  omega
theorem okD_lst (xs : List α) : okD (.lst (xs.map enc)) = true := okD_of (by rw [layD_lst]; exact lays_enc xs) (by have := dpD_lst (dps_enc xs); omega)
theorem okD_tup (xs : List α) : okD (.tup (xs.map enc)) = true := okD_of (by rw [layD_tup]; exact lays_enc xs) (by have := dpD_tup (dps_enc xs); omega)
theorem any_enc [DecidableEq α] (a : α) (xs : List α) : ((xs.map enc).any fun z => eqvD z (enc a)) = decide (a ∈ xs) := by
  induction xs with
  | nil => simp
  | cons x xs ih =>
    rw [List.map_cons, List.any_cons, ih, eqvD_enc]
    by_cases h : a = x
    · subst h; simp
    · have : ¬ x = a := fun z => h z.symm
      simp [h, this]
@[simp] theorem inX_lst [DecidableEq α] (a : α) (xs : List α) : inX (enc a) (.lst (xs.map enc)) = some (.bl (decide (a ∈ xs))) := by
  unfold inX inD
  simp only [okD_enc, okD_lst, Bool.and_self, if_true, any_enc]; rfl
@[simp] theorem inX_tup [DecidableEq α] (a : α) (xs : List α) : inX (enc a) (.tup (xs.map enc)) = some (.bl (decide (a ∈ xs))) := by
  unfold inX inD
  simp only [okD_enc, okD_tup, Bool.and_self, if_true, any_enc]; rfl
@[simp] theorem ninX_lst [DecidableEq α] (a : α) (xs : List α) : ninX (enc a) (.lst (xs.map enc)) = some (.bl (!decide (a ∈ xs))) := by
  unfold ninX ninD inD
  simp only [okD_enc, okD_lst, Bool.and_self, if_true, any_enc]; rfl
@[simp] theorem ninX_tup [DecidableEq α] (a : α) (xs : List α) : ninX (enc a) (.tup (xs.map enc)) = some (.bl (!decide (a ∈ xs))) := by
  unfold ninX ninD inD
  simp only [okD_enc, okD_tup, Bool.and_self, if_true, any_enc]; rfl
theorem eqv_lst_enc [DecidableEq α] (xs ys : List α) : eqvD (.lst (xs.map enc)) (.lst (ys.map enc)) = decide (xs = ys) := by
  rw [eqv_lst]
  induction xs generalizing ys with
  | nil => cases ys <;> simp
  | cons x xs ih =>
    cases ys with
    | nil => simp
    | cons y ys =>
      have := ih ys
      simp only [List.map_cons, List.length_cons, List.zip_cons_cons, List.all_cons, Nat.add_right_cancel_iff, eqvD_enc, List.cons.injEq] at this ⊢
      rw [← Bool.and_assoc, Bool.and_comm (decide _) (decide _), Bool.and_assoc, this]
      simp
@[simp] theorem eqD_lst_enc [DecidableEq α] (xs ys : List α) : eqD (.lst (xs.map enc)) (.lst (ys.map enc)) = some (.bl (decide (xs = ys))) := by rw [eqD_ok (okD_lst _) (okD_lst _), eqv_lst_enc]
@[simp] theorem neD_lst_enc [DecidableEq α] (xs ys : List α) : neD (.lst (xs.map enc)) (.lst (ys.map enc)) = some (.bl (!decide (xs = ys))) := by rw [neD_ok (okD_lst _) (okD_lst _), eqv_lst_enc]
/-! order -/
def ltE (a b : α) : Bool := dLt (enc a) (enc b)
def leE (a b : α) : Bool := dLe (enc a) (enc b)
theorem leE_lt (a b : α) : leE a b = !ltE b a := rfl
@[simp] theorem ltA_enc (a b : α) : ltA (enc a) (enc b) = some (.bl (ltE a b)) := by
  unfold ltA ltE
  have hc : cmpD (enc a) (enc b) = true := by
    unfold cmpD
    rw [okD_enc, okD_enc]
    have h1 := Kl.alk a b
    have h2 := Kl.nn a
    simp only [enc, h1, h2]; rfl
  cases q : ltD (enc a) (enc b) with
  | none => simp only [hc, if_true]; rfl
  | some d =>
    -- both are whole numbers
    unfold enc at q ⊢
    cases ha : Kl.nk a with
    | num i =>
      cases hb : Kl.nk b with
      | num j =>
        simp only [ha, hb, nkD, ltD_int, Option.some.injEq] at q ⊢
        subst q
        simp [dLt, toPy, PySem.W.dataLt, PySem.W.keyToks, PyProof.Rows.lexLt, PyProof.Rows.itemOrd, PyProof.Rows.itemLt]
      | _ => simp [ha, hb, nkD, ltD, intD] at q
    | _ => simp [ha, nkD, ltD, intD] at q
theorem leE_total : PySem.W.TotalLe (leE (α := α)) := ⟨fun a b c h1 h2 => dLe_total.trans _ _ _ h1 h2, fun a b => dLe_total.total _ _⟩
theorem leE_anti {a b : α} (h1 : leE a b = true) (h2 : leE b a = true) : a = b := by
  have al := Kl.alk a b
  have a1 : PyProof.Rows.lexLt PyProof.Rows.itemOrd (keyT (enc b)) (keyT (enc a)) = false := by simpa [leE, dLe, dLt, PySem.W.dataLt, keyT] using h1
  have a2 : PyProof.Rows.lexLt PyProof.Rows.itemOrd (keyT (enc a)) (keyT (enc b)) = false := by simpa [leE, dLe, dLt, PySem.W.dataLt, keyT] using h2
  have eq : keyT (enc a) = keyT (enc b) := (listOrd PyProof.Rows.itemOrd).total _ _ a2 a1
  have q : PyData.eqv (toPy (enc a)) (toPy (enc b)) = true := by
    cases q : PyData.eqv (toPy (enc a)) (toPy (enc b)) with
    | true => rfl
    | false =>
      have z := (PySem.W.toks_eqv (toPy (enc a)) (toPy (enc b)) al).2 q [] [.inl 0]
      have eq2 : PySem.W.keyToks (toPy (enc a)) = PySem.W.keyToks (toPy (enc b)) := eq
      rw [eq2, PySem.W.lex_pre] at z
      have y := (listOrd PyProof.Rows.itemOrd).irrefl (PySem.W.keyToks (toPy (enc b)))
      have y : PyProof.Rows.lexLt PyProof.Rows.itemOrd (PySem.W.keyToks (toPy (enc b))) (PySem.W.keyToks (toPy (enc b))) = false := y
      rw [y] at z
      exact absurd z (by simp [PyProof.Rows.lexLt])
  have q : eqvD (enc a) (enc b) = true := q
  unfold enc at q
  rw [toPy_nk] at q
  exact Kl.inj a b (of_decide_eq_true q)
/-- sorted -/
def srtE (xs : List α) : List α := isort leE xs
theorem insO_map (x : α) (xs : List α) : insO dLe (enc x) (xs.map enc) = (insO leE x xs).map enc := by
  induction xs with
  | nil => rfl
  | cons y ys ih =>
    simp only [List.map_cons, insO]
    show (if dLe (enc x) (enc y) = true then _ else _) = List.map enc (if dLe (enc x) (enc y) = true then _ else _)
    split
    · rfl
    · rw [ih]; rfl
theorem srtD_enc (xs : List α) : srtD (xs.map enc) = (srtE xs).map enc := by
  induction xs with
  | nil => rfl
  | cons y ys ih =>
    show insO dLe (enc y) (isort dLe (ys.map enc)) = _
    have ih : isort dLe (ys.map enc) = (isort leE ys).map enc := ih
    rw [ih, insO_map]; rfl
theorem srtE_perm (xs : List α) : (srtE xs).Perm xs := by
  unfold srtE
  rw [isort_eq leE_total]
  exact List.mergeSort_perm _ _
theorem srtE_sorted (xs : List α) : (srtE xs).Pairwise fun a b => leE a b = true := isort_pw leE_total xs
theorem srtE_id {xs : List α} (h : xs.Pairwise fun a b => leE a b = true) : srtE xs = xs :=
  List.Perm.eq_of_pairwise (le := fun a b => leE a b = true) (fun x y _ _ h1 h2 => leE_anti h1 h2) (srtE_sorted xs) h (srtE_perm xs)
theorem mem_srtE {x : α} {xs : List α} : x ∈ srtE xs ↔ x ∈ xs := (srtE_perm xs).mem_iff
theorem alk_enc (a b : α) : PySem.W.alike (toPy (enc a)) (toPy (enc b)) = true := Kl.alk a b
theorem tup_all (xs : List α) : ((xs.map enc).all isTup || (xs.map enc).all notTup) = true := by
  rw [Bool.or_eq_true]
  rcases Kl.tn (α := α) with h | h
  · left
    rw [List.all_map, List.all_eq_true]
    exact fun a _ => h a
  · right
    rw [List.all_map, List.all_eq_true]
    exact fun a _ => h a
theorem canSort_enc (xs : List α) : canSort (xs.map enc) = true := by
  unfold canSort
  rw [tup_all, Bool.and_true, Bool.and_eq_true]
  refine ⟨?_, ?_⟩
  · rw [List.all_map, List.all_eq_true]
    intro a _
    exact okD_enc a
  · rw [List.all_eq_true]
    intro d hd
    obtain ⟨a, _, rfl⟩ := List.mem_map.mp hd
    rw [List.all_map, List.all_eq_true]
    intro b _
    exact alk_enc a b
@[simp] theorem sortG_enc (xs : List α) : sortG [.lst (xs.map enc)] = some ((srtE xs).map enc) := by
  show (if canSort (xs.map enc) = true then some (srtD (xs.map enc)) else none).or _ = _
  rw [canSort_enc, if_pos rfl, srtD_enc]; rfl
end
/-! sets: whole numbers alone -/
class Ki (α : Type) extends Kl α where
  it : ∀ a, intK (nk a) = true
  tp : ∀ a, isTup (nkD (nk a)) = true
section
variable {α : Type} [Ki α] [DecidableEq α]
/-- without the later equal ones -/
def nubE : List α → List α → List α
  | _, [] => []
  | seen, x :: xs => if x ∈ seen then nubE seen xs else x :: nubE (x :: seen) xs
theorem mem_nubE {x : α} : ∀ {xs seen : List α}, x ∈ nubE seen xs ↔ x ∈ xs ∧ x ∉ seen
  | [], seen => by simp [nubE]
  | y :: ys, seen => by
    unfold nubE
    by_cases h : y ∈ seen
    · rw [if_pos h, mem_nubE]
      constructor
      · rintro ⟨h1, h2⟩; exact ⟨List.mem_cons_of_mem _ h1, h2⟩
      · rintro ⟨h1, h2⟩
        rcases List.mem_cons.mp h1 with rfl | h1
        · exact absurd h h2
        · exact ⟨h1, h2⟩
    · rw [if_neg h, List.mem_cons, mem_nubE]
      constructor
      · rintro (rfl | ⟨h1, h2⟩)
        · exact ⟨List.mem_cons_self, h⟩
        · exact ⟨List.mem_cons_of_mem _ h1, fun z => h2 (List.mem_cons_of_mem _ z)⟩
      · rintro ⟨h1, h2⟩
        by_cases e : x = y
        · exact .inl e
        · rcases List.mem_cons.mp h1 with rfl | h1
          · exact absurd rfl e
          · exact .inr ⟨h1, fun z => by rcases List.mem_cons.mp z with z | z; exact e z; exact h2 z⟩
theorem nubE_nodup : ∀ {xs seen : List α}, (nubE seen xs).Nodup
  | [], seen => List.nodup_nil
  | y :: ys, seen => by
    unfold nubE
    split
    · exact nubE_nodup
    · refine List.nodup_cons.mpr ⟨fun z => ?_, nubE_nodup⟩
      exact (mem_nubE.mp z).2 List.mem_cons_self
end
end DL
end
section
namespace DL
open PySem PySem.Spec L2 DLS
open PyProof.Rows hiding St
/-! ### numbers, pairs, kinds, pieces, positions -/
instance : Kl Int where
  nk := .num
  inj := fun a b h => by injection h
  ok := fun _ => rfl
  dp := 0
  dep := fun _ => Nat.le_refl _
  le := by decide
  alk := fun _ _ => rfl
  nn := fun _ => rfl
  tn := .inr fun _ => rfl
class Kz (α : Type) extends Kl α where
  iz : ∀ a, intK (nk a) = true
instance : Kz Int where
  iz := fun _ => rfl
theorem alike2 {a b c d : PyData} (h1 : PySem.W.alike a c = true) (h2 : PySem.W.alike b d = true) : PySem.W.alike (.tuple [a, b]) (.tuple [c, d]) = true := by
  simp [PySem.W.alike, PySem.W.alikeAll, h1, h2]
/-- shallow enough to stand in a pair -/
class Sh (α : Type) [Kl α] : Prop where
  sh : Kl.dp α ≤ 3
instance : Sh Int where
  sh := by decide
instance {α β : Type} [Kl α] [Kl β] [ha : Sh α] [hb : Sh β] : Kl (α × β) where
  nk := fun p => .tup [Kl.nk p.1, Kl.nk p.2]
  inj := fun a b h => by
    injection h with h
    injection h with h1 h2
    injection h2 with h2
    exact Prod.ext (Kl.inj _ _ h1) (Kl.inj _ _ h2)
  ok := fun a => by simp [okN, okNs, Kl.ok]
  dp := max (Kl.dp α) (Kl.dp β) + 1
  dep := fun a => by
    have h1 := Kl.dep a.1
    have h2 := Kl.dep a.2
    simp only [NestedKey.depth, NestedKey.depthAll]
    omega
  le := by have := ha.sh; have := hb.sh; omega
  alk := fun a b => alike2 (Kl.alk _ _) (Kl.alk _ _)
  nn := fun _ => rfl
  tn := .inl fun _ => rfl
instance {α β : Type} [Kz α] [Kz β] [Sh α] [Sh β] : Kz (α × β) where
  iz := fun a => by
    show intK (.tup [Kl.nk a.1, Kl.nk a.2]) = true
    simp [intK, intKs, Kz.iz]
instance {α β : Type} [Kz α] [Kz β] [Sh α] [Sh β] : Ki (α × β) where
  it := Kz.iz
  tp := fun _ => rfl
abbrev Cell := Int × Int
abbrev Move := Cell × Cell
instance : Sh Cell where
  sh := by decide
instance : Sh Move where
  sh := by decide
structure Kd where
  i : Fin 26
  deriving DecidableEq
def kdS (k : Kd) : Str := ⟨#[97 + k.i.val]⟩
instance : Kl Kd where
  nk := fun k => .text (kdS k)
  inj := fun a b h => by
    obtain ⟨a, ha⟩ := a
    obtain ⟨b, hb⟩ := b
    simp [kdS] at h
    congr
  ok := fun k => by
    obtain ⟨⟨k, hk⟩⟩ := k
    simp [okN, PyData.strOk, kdS]
    omega
  dp := 0
  dep := fun _ => Nat.le_refl _
  le := by decide
  alk := fun _ _ => rfl
  nn := fun _ => rfl
  tn := .inr fun _ => rfl
structure Piece where
  cell : Cell
  side : Int
  kd : Kd
  deriving DecidableEq
theorem alike3 {a b c d e f : PyData} (h1 : PySem.W.alike a d = true) (h2 : PySem.W.alike b e = true) (h3 : PySem.W.alike c f = true) : PySem.W.alike (.tuple [a, b, c]) (.tuple [d, e, f]) = true := by
  simp [PySem.W.alike, PySem.W.alikeAll, h1, h2, h3]
instance : Kl Piece where
  nk := fun p => .tup [Kl.nk p.cell, Kl.nk p.side, Kl.nk p.kd]
  inj := fun a b h => by
    injection h with h
    injection h with h1 h
    injection h with h2 h
    injection h with h3 h
    obtain ⟨a1, a2, a3⟩ := a
    obtain ⟨b1, b2, b3⟩ := b
    have e1 : a1 = b1 := Kl.inj _ _ h1
    have e2 : a2 = b2 := Kl.inj _ _ h2
    have e3 : a3 = b3 := Kl.inj _ _ h3
    rw [e1, e2, e3]
  ok := fun a => by simp [okN, okNs, Kl.ok]
  dp := 2
  dep := fun a => by
    have h1 : (Kl.nk a.cell).depth ≤ 1 := Kl.dep a.cell
    have h2 : (Kl.nk a.side).depth ≤ 0 := Kl.dep a.side
    have h3 : (Kl.nk a.kd).depth ≤ 0 := Kl.dep a.kd
    simp only [NestedKey.depth, NestedKey.depthAll]
    omega
  le := by decide
  alk := fun a b => alike3 (Kl.alk a.cell b.cell) (Kl.alk a.side b.side) (Kl.alk a.kd b.kd)
  nn := fun _ => rfl
  tn := .inl fun _ => rfl
structure Pos where
  turn : Int
  ps : List Piece
  deriving DecidableEq
theorem nks_map {α : Type} [Kl α] (xs : List α) : nkDs (xs.map Kl.nk) = xs.map enc := by
  induction xs with
  | nil => rfl
  | cons x xs ih => rw [List.map_cons, nkDs, ih]; rfl
theorem alike_all {α : Type} [Kl α] : ∀ xs ys : List α, PySem.W.alikeAll (toPyL (nkDs (xs.map Kl.nk))) (toPyL (nkDs (ys.map Kl.nk))) = true
  | [], ys => by cases ys <;> rfl
  | x :: xs, [] => rfl
  | x :: xs, y :: ys => by
    simp only [List.map_cons, nkDs, toPyL, PySem.W.alikeAll]
    rw [Kl.alk x y, alike_all xs ys]; rfl
theorem okNs_map {α : Type} [Kl α] : ∀ xs : List α, okNs (xs.map Kl.nk) = true
  | [] => rfl
  | x :: xs => by rw [List.map_cons, okNs, Kl.ok, okNs_map xs]; rfl
theorem depNs_map {α : Type} [Kl α] : ∀ xs : List α, NestedKey.depthAll (xs.map Kl.nk) ≤ Kl.dp α
  | [] => Nat.zero_le _
  | x :: xs => by
    rw [List.map_cons, NestedKey.depthAll]
    have := Kl.dep x
    have := depNs_map xs
    omega
instance : Kl Pos where
  nk := fun p => .tup [Kl.nk p.turn, .tup (p.ps.map Kl.nk)]
  inj := fun a b h => by
    injection h with h
    injection h with h1 h
    injection h with h2 h
    injection h2 with h2
    obtain ⟨a1, a2⟩ := a
    obtain ⟨b1, b2⟩ := b
    have e1 : a1 = b1 := Kl.inj _ _ h1
    have e2 : a2 = b2 := by
      have : Function.Injective (Kl.nk (α := Piece)) := fun x y => Kl.inj x y
      exact (List.map_inj_right (fun x y => Kl.inj x y)).mp h2
    rw [e1, e2]
  ok := fun a => by simp [okN, okNs, Kl.ok, okNs_map]
  dp := 4
  dep := fun a => by
    have h1 : (Kl.nk a.turn).depth ≤ 0 := Kl.dep a.turn
    have h2 : NestedKey.depthAll (a.ps.map Kl.nk) ≤ 2 := depNs_map a.ps
    simp only [NestedKey.depth, NestedKey.depthAll]
    omega
  le := by decide
  alk := fun a b => alike2 (Kl.alk a.turn b.turn) (alike_all a.ps b.ps)
  nn := fun _ => rfl
  tn := .inl fun _ => rfl
structure Way where
  ride : Bool
  step : Cell
  n : Int
  deriving DecidableEq
def wayS (b : Bool) : Str := if b = true then "ride" else "leap"
instance : Kl Way where
  nk := fun p => .tup [.text (wayS p.ride), Kl.nk p.step, Kl.nk p.n]
  inj := fun a b h => by
    injection h with h
    injection h with h1 h
    injection h with h2 h
    injection h with h3 h
    injection h1 with h1
    obtain ⟨a1, a2, a3⟩ := a
    obtain ⟨b1, b2, b3⟩ := b
    have e1 : a1 = b1 := by
      have h1 : wayS a1 = wayS b1 := h1
      cases a1 <;> cases b1 <;> first | rfl | exact absurd h1 (by decide +kernel)
    have e2 : a2 = b2 := Kl.inj _ _ h2
    have e3 : a3 = b3 := Kl.inj _ _ h3
    rw [e1, e2, e3]
  ok := fun a => by
    have : okN (.text (wayS a.ride)) = true := by cases a.ride <;> decide +kernel
    simp [okNs, okN, Kl.ok] at this ⊢
    exact this
  dp := 2
  dep := fun a => by
    have h1 : (Kl.nk a.step).depth ≤ 1 := Kl.dep a.step
    have h2 : (Kl.nk a.n).depth ≤ 0 := Kl.dep a.n
    simp only [NestedKey.depth, NestedKey.depthAll]
    omega
  le := by decide
  alk := fun a b => alike3 rfl (Kl.alk a.step b.step) (Kl.alk a.n b.n)
  nn := fun _ => rfl
  tn := .inl fun _ => rfl
theorem enc_int (i : Int) : enc i = .int i := rfl
theorem enc_pos (p : Pos) : enc p = .tup [.int p.turn, .tup (p.ps.map enc)] := by
  show D.tup [.int p.turn, .tup (nkDs (p.ps.map Kl.nk))] = _
  rw [nks_map]
end DL
end
section
namespace DL
open PySem PySem.Spec L2 DLS
open PyProof.Rows hiding St
/-! ### a yard -/
structure Kind where
  leaps : List Cell
  rides : List Cell
  crown : Int
  deriving DecidableEq
def encK (k : Kind) : D := .tup [.lst (k.leaps.map enc), .lst (k.rides.map enc), .int k.crown]
structure Yd where
  h : Int
  w : Int
  holes : List Cell
  stuck : Str
  g0 : List Cell
  g1 : List Cell
  kinds : List (Kd × Kind)
def kindsD (ks : List (Kd × Kind)) : D := .dic (ks.map fun p => enc p.1) (ks.map fun p => encK p.2)
def yN : List Str := ["height", "width", "holes", "stuck", "goals", "kinds"]
def encY (y : Yd) : D := .ins "Yard" yN [.int y.h, .int y.w, .lst (y.holes.map enc), .str y.stuck, .tup [.lst (y.g0.map enc), .lst (y.g1.map enc)], kindsD y.kinds]
def getF (c f : Str) : D → Option D
  | .ins c' ns ds => if c' = c then fldD f ns ds else none
  | _ => none
def isIns (c nm : Str) : D → Bool
  | .ins c' ns _ => decide (c' = c ∧ nm ∉ ns)
  | _ => false
section
variable {ρ : DL.Env}
@[simp] theorem fldM_ap' (c f : Str) (fo : M D) : fldM c f fo ρ = (match fo ρ with | .ok d ρ2 => liftM (getF c f d) ρ2 | .exc c ρ' => .exc c ρ' | .stuck => .stuck) := by
  rw [fldM_ap]
  cases e : fo ρ with
  | ok d ρ' =>
    cases d with
    | ins c' ns ds =>
      dsimp only [getF]
      by_cases h : c' = c
      · simp only [h, if_true]
      · simp only [h, if_false]; rfl
    | _ => rfl
  | _ => rfl
@[simp] theorem methD_ap' (c nm : Str) (md : List Bool) (f : Fn) (fo : M D) (fa : M (List Ag)) : methD c nm md f fo fa ρ = (match fo ρ with | .ok d ρ2 => if isIns c nm d = true then callM f (mdM md (bindM fa fun ags => pureM (.d d :: ags))) ρ2 else .stuck | .exc c ρ' => .exc c ρ' | .stuck => .stuck) := by
  rw [methD_ap]
  cases e : fo ρ with
  | ok d ρ' =>
    cases d with
    | ins c' ns ds =>
      dsimp only [isIns]
      by_cases h : c' = c ∧ nm ∉ ns
      · simp only [h, not_false_eq_true, and_self, if_true, decide_true]
      · simp only [h, if_false, decide_false]; rfl
    | _ => rfl
  | _ => rfl
end
@[simp] theorem getF_h (y : Yd) : getF "Yard" "height" (encY y) = some (.int y.h) := by with_unfolding_all rfl
@[simp] theorem getF_w (y : Yd) : getF "Yard" "width" (encY y) = some (.int y.w) := by with_unfolding_all rfl
@[simp] theorem getF_ho (y : Yd) : getF "Yard" "holes" (encY y) = some (.lst (y.holes.map enc)) := by with_unfolding_all rfl
@[simp] theorem getF_st (y : Yd) : getF "Yard" "stuck" (encY y) = some (.str y.stuck) := by with_unfolding_all rfl
@[simp] theorem getF_go (y : Yd) : getF "Yard" "goals" (encY y) = some (.tup [.lst (y.g0.map enc), .lst (y.g1.map enc)]) := by with_unfolding_all rfl
@[simp] theorem getF_ki (y : Yd) : getF "Yard" "kinds" (encY y) = some (kindsD y.kinds) := by with_unfolding_all rfl
@[simp] theorem isIns_ob (y : Yd) : isIns "Yard" "on_board" (encY y) = true := by with_unfolding_all rfl
@[simp] theorem isIns_if (y : Yd) : isIns "Yard" "is_free" (encY y) = true := by with_unfolding_all rfl
@[simp] theorem isIns_ce (y : Yd) : isIns "Yard" "cells" (encY y) = true := by with_unfolding_all rfl
@[simp] theorem cell_0 (c : Cell) : ixX (enc c) (.int 0) = some (.int c.1) := rfl
@[simp] theorem cell_1 (c : Cell) : ixX (enc c) (.int 1) = some (.int c.2) := rfl
@[simp] theorem move_0 (c : Move) : ixX (enc c) (.int 0) = some (enc c.1) := rfl
@[simp] theorem move_1 (c : Move) : ixX (enc c) (.int 1) = some (enc c.2) := rfl
@[simp] theorem piece_0 (c : Piece) : ixX (enc c) (.int 0) = some (enc c.cell) := rfl
@[simp] theorem piece_1 (c : Piece) : ixX (enc c) (.int 1) = some (.int c.side) := rfl
@[simp] theorem piece_2 (c : Piece) : ixX (enc c) (.int 2) = some (enc c.kd) := rfl
@[simp] theorem kind_0 (c : Kind) : ixX (encK c) (.int 0) = some (.lst (c.leaps.map enc)) := rfl
@[simp] theorem kind_1 (c : Kind) : ixX (encK c) (.int 1) = some (.lst (c.rides.map enc)) := rfl
@[simp] theorem kind_2 (c : Kind) : ixX (encK c) (.int 2) = some (.int c.crown) := rfl
def onBoard (y : Yd) (c : Cell) : Bool := decide (0 ≤ c.1) && decide (c.1 < y.h) && (decide (0 ≤ c.2) && decide (c.2 < y.w))
def isFree (y : Yd) (c : Cell) : Bool := onBoard y c && !decide (c ∈ y.holes)
/-- the simp set for running mirrors -/
@[simp] theorem Yard_on_board_ap (y : Yd) (c : Cell) : Mi.Yard_on_board [.d (encY y), .d (enc c)] = .ok (.bl (onBoard y c)) [] := by
  unfold Mi.Yard_on_board onBoard
  by_cases h1 : 0 ≤ c.1 <;> by_cases h2 : c.1 < y.h <;> by_cases h3 : 0 ≤ c.2 <;> by_cases h4 : c.2 < y.w <;> simp [h1, h2, h3, h4]
@[simp] theorem Yard_is_free_ap (y : Yd) (c : Cell) : Mi.Yard_is_free [.d (encY y), .d (enc c)] = .ok (.bl (isFree y c)) [] := by
  unfold Mi.Yard_is_free isFree
  cases h : onBoard y c <;> simp [h]
end DL
end
section
namespace DL
open PySem PySem.Spec L2 DLS
open PyProof.Rows hiding St
/-! ### comprehensions and loops over typed lists -/
/-! the set of a yard's kinds -/
def lookK (ks : List (Kd × Kind)) (k : Kd) : Option Kind := (ks.find? fun p => decide (p.1 = k)).map (·.2)
theorem isK_kd (k : Kd) : isK (enc k) = true := rfl
theorem allK_kd (ks : List (Kd × Kind)) : (ks.map fun p => enc p.1).all isK = true := by
  rw [List.all_map, List.all_eq_true]
  exact fun p _ => isK_kd p.1
theorem sameK_kd (a b : Kd) : sameK (enc a) (enc b) = decide (a = b) := by
  show decide (kdS a = kdS b) = _
  by_cases h : a = b
  · subst h; simp
  · have : ¬ kdS a = kdS b := fun z => h (Kl.inj a b (by show NestedKey.text _ = NestedKey.text _; rw [z]))
    simp [h, this]
theorem dicGet_kd (ks : List (Kd × Kind)) (k : Kd) : dicGet (enc k) (ks.map fun p => enc p.1) (ks.map fun p => encK p.2) = (lookK ks k).map encK := by
  induction ks with
  | nil => rfl
  | cons p l ih =>
    simp only [List.map_cons, dicGet, sameK_kd, lookK, List.find?_cons]
    by_cases h : p.1 = k
    · simp [h]
    · simp only [h, decide_false]
      exact ih
@[simp] theorem inX_kd (ks : List (Kd × Kind)) (k : Kd) : inX (enc k) (kindsD ks) = some (.bl (lookK ks k).isSome) := by
  have e : inD (enc k) (kindsD ks) = some (.bl (lookK ks k).isSome) := by
    show (if (isK (enc k) && (ks.map fun p => enc p.1).all isK) = true then some (D.bl (dicGet (enc k) (ks.map fun p => enc p.1) (ks.map fun p => encK p.2)).isSome) else none) = _
    rw [allK_kd, isK_kd, dicGet_kd]
    simp
  show (inD _ _).or _ = _
  rw [e]; rfl
@[simp] theorem in01 (s : Int) : inX (.int s) (.tup [.int 0, .int 1]) = some (.bl (decide (s = 0 ∨ s = 1))) := by
  have := inX_tup (α := Int) s [0, 1]
  simpa [enc_int] using this
@[simp] theorem nin01 (s : Int) : ninX (.int s) (.tup [.int 0, .int 1]) = some (.bl (!decide (s = 0 ∨ s = 1))) := by
  have := ninX_tup (α := Int) s [0, 1]
  simpa [enc_int] using this
end DL
namespace DL
open PySem PySem.Spec L2 DLS
open PyProof.Rows hiding St
/-! ### running a body step by step -/
end DL
end
section
namespace DL
open PySem PySem.Spec L2 DLS
open PyProof.Rows hiding St
/-! ### positions -/
def sides01 (s : Int) : Bool := decide (s = 0 ∨ s = 1)
def isPiece (y : Yd) (p : Piece) : Bool := isFree y p.cell && (sides01 p.side && (lookK y.kinds p.kd).isSome)
@[simp] theorem tgU_piece (t : TgsF) (p : Piece) (ρ : DL.Env) : tgU 3 t (enc p) ρ = t [enc p.cell, .int p.side, enc p.kd] ρ := rfl
@[simp] theorem tgU_pos (t : TgsF) (p : Pos) (ρ : DL.Env) : tgU 2 t (enc p) ρ = t [.int p.turn, .tup (p.ps.map enc)] ρ := by rw [enc_pos]; rfl
@[simp] theorem tgU_cell (t : TgsF) (c : Cell) (ρ : DL.Env) : tgU 2 t (enc c) ρ = t [.int c.1, .int c.2] ρ := rfl
@[simp] theorem tgU_pair {α β : Type} [Kl α] [Kl β] [Sh α] [Sh β] (t : TgsF) (c : α × β) (ρ : DL.Env) : tgU 2 t (enc c) ρ = t [enc c.1, enc c.2] ρ := rfl
@[simp] theorem tgU_kind (t : TgsF) (k : Kind) (ρ : DL.Env) : tgU 3 t (encK k) ρ = t [.lst (k.leaps.map enc), .lst (k.rides.map enc), .int k.crown] ρ := rfl
@[simp] theorem is_piece_ap (y : Yd) (p : Piece) : Mi.is_piece [.d (encY y), .d (enc p)] = .ok (.bl (isPiece y p)) [] := by
  unfold Mi.is_piece isPiece sides01
  cases h : isFree y p.cell <;> by_cases h2 : p.side = 0 ∨ p.side = 1 <;> simp [h, h2]
def crownOf (y : Yd) (k : Kd) : Int := ((lookK y.kinds k).map (·.crown)).getD 0
def crowns (y : Yd) (ps : List Piece) (side : Int) : List Cell := (ps.filter fun p => decide (p.side = side) && decide (crownOf y p.kd = 1)).map (·.cell)
/-- rising -/
def risingB {α : Type} (lt : α → α → Bool) : List α → Bool
  | a :: b :: l => lt a b && risingB lt (b :: l)
  | _ => true
theorem inRg_nat (n : Nat) (h : n ≤ 1000000) : inRg (n : Int) = true := by
  unfold inRg
  rw [Bool.and_eq_true, decide_eq_true_eq, decide_eq_true_eq]
  constructor <;> omega
end DL
end
section
namespace DL
open PySem PySem.Spec L2 DLS
open PyProof.Rows hiding St
def ltC (a b : Piece) : Bool := ltE a.cell b.cell
def isPos (y : Yd) (p : Pos) : Bool := sides01 p.turn && (decide (1 ≤ p.ps.length) && decide (p.ps.length ≤ 10)) && (p.ps.all (isPiece y) && (risingB ltC p.ps && decide (0 < (crowns y p.ps 0 ++ crowns y p.ps 1).length)))
@[simp] theorem addD_lst {α : Type} (e : α → D) (xs ys : List α) (h : xs.length + ys.length ≤ 1000000) : addD (.lst (xs.map e)) (.lst (ys.map e)) = some (.lst ((xs ++ ys).map e)) := by
  show (if (xs.map e).length + (ys.map e).length ≤ sizeLine then _ else none) = _
  rw [if_pos (by rw [sizeLine_eq]; simp; omega), List.map_append]
end DL
end
section
namespace DL
open PySem PySem.Spec L2 DLS
open PyProof.Rows hiding St
/-! ### where a piece goes -/
def encSK (p : Int × Kd) : D := .tup [.int p.1, enc p.2]
def pieceAt (ps : List Piece) (c : Cell) : Option (Int × Kd) := ps.findSome? fun p => if p.cell = c then some (p.side, p.kd) else none
def optD {α : Type} (e : α → D) : Option α → D
  | none => .non
  | some a => e a
@[simp] theorem isNb_opt (o : Option (Int × Kd)) : isNb (optD encSK o) = o.isNone := by cases o <;> rfl
def mayEnd (y : Yd) (ps : List Piece) (side : Int) (c : Cell) : Bool := isFree y c && (match pieceAt ps c with | none => true | some z => !decide (z.1 = side))
def turnS (s : Cell) (side : Int) : Cell := if side = 0 then s else (0 - s.1, 0 - s.2)
@[simp] theorem turned_step_ap (s : Cell) (side : Int) : Mi.turned_step [.d (enc s), .d (.int side)] = .ok (enc (turnS s side)) [] := by
  unfold Mi.turned_step turnS
  by_cases h : side = 0
  · simp [h]
  · simp [h]; rfl
def goneC (c s : Cell) (k : Int) : Cell := (c.1 + k * s.1, c.2 + k * s.2)
@[simp] theorem gone_ap (c s : Cell) (k : Int) (h : -(2 ^ 64) < k ∧ k < 2 ^ 64) : Mi.gone [.d (enc c), .d (enc s), .d (.int k)] = .ok (enc (goneC c s k)) [] := by
  unfold Mi.gone goneC
  simp [mulD_l _ _ h.1 h.2]
  rfl
/-- how often a piece may go -/
def rideGo (y : Yd) (ps : List Piece) (side : Int) (c s : Cell) : Nat → Int → List Int
  | 0, _ => []
  | n + 1, k => if mayEnd y ps side (goneC c s k) = true then k :: (if (pieceAt ps (goneC c s k)).isSome = true then [] else rideGo y ps side c s n (k + 1)) else []
def rides (y : Yd) (ps : List Piece) (side : Int) (c s : Cell) : List Int := rideGo y ps side c s 8 1
/-- a board of five, a step that is one -/
def YOk (y : Yd) : Prop := y.h ≤ 5 ∧ y.w ≤ 5
theorem free_of {y : Yd} {c : Cell} (h : isFree y c = true) : (0 ≤ c.1 ∧ c.1 < y.h) ∧ 0 ≤ c.2 ∧ c.2 < y.w := by
  unfold isFree onBoard at h
  simp only [Bool.and_eq_true, decide_eq_true_eq] at h
  exact h.1
end DL
end
section
namespace DL
open PySem PySem.Spec L2 DLS
open PyProof.Rows hiding St
instance : Sh Way where
  sh := by decide
instance : Sh Piece where
  sh := by decide
instance : Sh (Cell × Way) where
  sh := by decide
structure YGood (y : Yd) : Prop where
  hw : YOk y
  nz : ∀ k K, lookK y.kinds k = some K → ∀ s ∈ K.rides, s ≠ (0, 0)
  ll : ∀ k K, lookK y.kinds k = some K → K.leaps.length ≤ 100 ∧ K.rides.length ≤ 100
  lh : y.holes.length ≤ 100
  lg : y.g0.length ≤ 100 ∧ y.g1.length ≤ 100
  sk : y.stuck = "lost" ∨ y.stuck = "drawn"
def leapW (y : Yd) (ps : List Piece) (side : Int) (c s : Cell) : List (Cell × Way) := if mayEnd y ps side (goneC c (turnS s side) 1) = true then [(goneC c (turnS s side) 1, ⟨false, turnS s side, 1⟩)] else []
def rideW (y : Yd) (ps : List Piece) (side : Int) (c s : Cell) : List (Cell × Way) := (rides y ps side c (turnS s side)).map fun k => (goneC c (turnS s side) k, ⟨true, turnS s side, k⟩)
def waysK (y : Yd) (ps : List Piece) (side : Int) (c : Cell) (K : Kind) : List (Cell × Way) := K.leaps.flatMap (leapW y ps side c) ++ K.rides.flatMap (rideW y ps side c)
end DL
end
section
namespace DL
open PySem PySem.Spec L2 DLS
open PyProof.Rows hiding St
instance : Sh Move where
  sh := by decide
def waysOf (y : Yd) (ps : List Piece) (p : Piece) : List (Cell × Way) := match lookK y.kinds p.kd with
  | some K => waysK y ps p.side p.cell K
  | none => []
def pieceW (y : Yd) (p : Pos) (q : Piece) : List (Move × Way) := if q.side = p.turn then (waysOf y p.ps q).map fun w => ((q.cell, w.1), w.2) else []
def allWays (y : Yd) (p : Pos) : List (Move × Way) := p.ps.flatMap (pieceW y p)
structure POk (y : Yd) (p : Pos) : Prop where
  pc : p.ps.all (isPiece y) = true
  tn : p.turn = 0 ∨ p.turn = 1
  ln : p.ps.length ≤ 10
theorem POk.of {y : Yd} {p : Pos} (h : isPos y p = true) : POk y p := by
  unfold isPos sides01 at h
  simp only [Bool.and_eq_true, decide_eq_true_eq] at h
  exact ⟨h.2.1, h.1.1, h.1.2.2⟩
def goalsOf (y : Yd) (s : Int) : List Cell := if s = 0 then y.g0 else y.g1
def onGoal (y : Yd) (ps : List Piece) (s : Int) : Bool := (crowns y ps s).any fun c => decide (c ∈ goalsOf y s)
end DL
end
section
namespace DL
open PySem PySem.Spec L2 DLS
open PyProof.Rows hiding St
/-! ### verdicts -/
inductive Vd where
  | non | won (s : Int) | drawn
  deriving DecidableEq
def stuckV (y : Yd) (p : Pos) : Vd := if y.stuck = "lost" then .won (1 - p.turn) else .drawn
def verdict (y : Yd) (p : Pos) : Vd :=
  if crowns y p.ps 0 = [] then .won 1 else if crowns y p.ps 1 = [] then .won 0
  else if onGoal y p.ps (1 - p.turn) = true then .won (1 - p.turn) else if onGoal y p.ps p.turn = true then .won p.turn
  else if allWays y p = [] then stuckV y p else .non
/-! ### moves, and the position behind one -/
/-- fewer than 77 different moves -/
def Few64 (y : Yd) (p : Pos) : Prop := (nubE [] ((allWays y p).map (·.1))).length < 77
end DL
end
section
namespace DL
open PySem PySem.Spec L2 DLS
open PyProof.Rows hiding St
/-! ### what Yard looks at -/
def absI (i : Int) : Int := if i < 0 then -i else i
def isStep (c : Cell) : Bool := !decide (c = ((0, 0) : Cell)) && (decide (absI c.1 ≤ 4) && decide (absI c.2 ≤ 4))
def stepsAll (K : Kind) : Bool := (K.leaps ++ K.rides).all isStep
def okKind (K : Kind) : Bool := sides01 K.crown && (risingB ltE K.leaps && (risingB ltE K.rides && stepsAll K))
end DL
end
section
namespace DL
open PySem PySem.Spec L2 DLS
open PyProof.Rows hiding St
/-! ### Yard is made -/
@[simp] theorem noIns_enc {α : Type} [Kl α] (a : α) : noIns (enc a) = true := nk_noIns _
@[simp] theorem noInsL_map {α : Type} (e : α → D) (h : ∀ a, noIns (e a) = true) : ∀ xs : List α, noInsL (xs.map e) = true
  | [] => rfl
  | a :: xs => by rw [List.map_cons, noInsL, h, noInsL_map e h xs]; rfl
@[simp] theorem noInsL_enc {α : Type} [Kl α] (xs : List α) : noInsL (xs.map enc) = true := noInsL_map _ noIns_enc xs
@[simp] theorem noIns_lst (xs : List D) : noIns (.lst xs) = noInsL xs := rfl
@[simp] theorem noIns_tup (xs : List D) : noIns (.tup xs) = noInsL xs := rfl
@[simp] theorem noIns_int (i : Int) : noIns (.int i) = true := rfl
@[simp] theorem noIns_str (i : Str) : noIns (.str i) = true := rfl
@[simp] theorem noInsL_nil : noInsL [] = true := rfl
@[simp] theorem noInsL_cons (d : D) (ds : List D) : noInsL (d :: ds) = (noIns d && noInsL ds) := rfl
@[simp] theorem noIns_K (k : Kind) : noIns (encK k) = true := by simp [encK]
@[simp] theorem noIns_kD (ks : List (Kd × Kind)) : noIns (kindsD ks) = true := noInsL_map (fun p : Kd × Kind => encK p.2) (fun p => noIns_K p.2) ks
structure YIn (h w : Int) (holes : List Cell) (ks : List (Kd × Kind)) (g0 g1 : List Cell) (stuck : Str) : Prop where
  h1 : 1 ≤ h
  h5 : h ≤ 5
  w1 : 1 ≤ w
  w5 : w ≤ 5
  st : stuck = "lost" ∨ stuck = "drawn"
  rh : risingB ltE holes = true
  ob : ∀ c ∈ holes, (decide (0 ≤ c.1) && decide (c.1 < h) && (decide (0 ≤ c.2) && decide (c.2 < w))) = true
  k1 : 1 ≤ ks.length
  k6 : ks.length ≤ 6
  nd : (ks.map (·.1)).Nodup
  kk : ∀ p ∈ ks, okKind p.2 = true ∧ p.2.leaps.length ≤ 100 ∧ p.2.rides.length ≤ 100
  g : ∀ g, g = g0 ∨ g = g1 → risingB ltE g = true ∧ g.length ≤ 100 ∧ ∀ c ∈ g, ((decide (0 ≤ c.1) && decide (c.1 < h) && (decide (0 ≤ c.2) && decide (c.2 < w))) && !decide (c ∈ holes)) = true
  lh : holes.length ≤ 100
section
variable {h w : Int} {holes : List Cell} {ks : List (Kd × Kind)} {g0 g1 : List Cell} {stuck : Str}
theorem lookK_mem {ks : List (Kd × Kind)} (nd : (ks.map (·.1)).Nodup) {p : Kd × Kind} (hp : p ∈ ks) : lookK ks p.1 = some p.2 := by
  unfold lookK
  induction ks with
  | nil => cases hp
  | cons q ks ih =>
    rw [List.map_cons, List.nodup_cons] at nd
    rw [List.find?_cons]
    by_cases h : q.1 = p.1
    · simp only [h, decide_true]
      rcases List.mem_cons.mp hp with rfl | hp
      · rfl
      · exact absurd (List.mem_map.mpr ⟨p, hp, h.symm⟩) nd.1
    · simp only [h, decide_false]
      rcases List.mem_cons.mp hp with rfl | hp
      · exact absurd rfl h
      · exact ih nd.2 hp
def getK (ks : List (Kd × Kind)) (k : Kd) : Kind := (lookK ks k).getD ⟨[], [], 0⟩
end
end DL
end
section
namespace DL
open PySem PySem.Spec L2 DLS
open PyProof.Rows hiding St
section
variable {h w : Int} {holes : List Cell} {ks : List (Kd × Kind)} {g0 g1 : List Cell} {stuck : Str}
def ordK (ks : List (Kd × Kind)) : List (Kd × Kind) := (srtE (ks.map (·.1))).map fun k => (k, getK ks k)
def mkY (h w : Int) (holes : List Cell) (ks : List (Kd × Kind)) (g0 g1 : List Cell) (stuck : Str) : Yd := ⟨h, w, holes, stuck, g0, g1, ordK ks⟩
end
end DL
end
section
namespace DL
open PySem PySem.Spec L2 DLS
open PyProof.Rows hiding St
theorem rg1_nat (n : Nat) (h : n ≤ 1000000) : rg1 [.int n] = some ((List.range n).map fun (i : Nat) => D.int (0 + (i : Int))) := by
  have h2 := inRg_nat n h
  have e : ((n : Int)).toNat = n := by omega
  simp only [rg1, h2, if_true, e]
/-! ### rising lists -/
section
variable {α : Type} [Kl α]
theorem ltE_of {a b : α} (h : leE a b = true) (n : a ≠ b) : ltE a b = true := by
  cases c : ltE a b with
  | true => rfl
  | false =>
    have : leE b a = true := by rw [leE_lt, c]; rfl
    exact absurd (leE_anti h this) n
theorem lt_le {a b : α} (h : ltE a b = true) : leE a b = true := by
  rcases leE_total.total a b with h1 | h1
  · exact h1
  · rw [leE_lt, h] at h1; cases h1
theorem lt_ne {a b : α} (h : ltE a b = true) : a ≠ b := by
  rintro rfl
  have := leE_total.total a a
  rw [leE_lt, h] at this
  rcases this with h | h <;> cases h
theorem lt_tr {a b c : α} (h1 : ltE a b = true) (h2 : ltE b c = true) : ltE a c = true := by
  refine ltE_of (leE_total.trans _ _ _ (lt_le h1) (lt_le h2)) ?_
  rintro rfl
  exact lt_ne h1 (leE_anti (lt_le h1) (lt_le h2))
theorem rising_pwE : ∀ {xs : List α}, risingB ltE xs = true → xs.Pairwise fun a b => ltE a b = true
  | [], _ => .nil
  | [a], _ => by simp
  | a :: b :: l, h => by
    simp only [risingB, Bool.and_eq_true] at h
    have ih := rising_pwE h.2
    refine List.pairwise_cons.mpr ⟨fun c hc => ?_, ih⟩
    rcases List.mem_cons.mp hc with rfl | hc
    · exact h.1
    · exact lt_tr h.1 ((List.pairwise_cons.mp ih).1 c hc)
theorem rising_nodup {xs : List α} (h : risingB ltE xs = true) : xs.Nodup := (rising_pwE h).imp lt_ne
end
def rowL (w r : Nat) : List Cell := (List.range w).map fun (c : Nat) => (((r : Int), (c : Int)) : Cell)
def boardN (h w : Nat) : List Cell := (List.range h).flatMap (rowL w)
theorem boardN_succ (h w : Nat) : boardN (h + 1) w = boardN h w ++ rowL w h := by
  unfold boardN
  rw [List.range_succ, List.flatMap_append]
  simp
theorem boardN_len (h w : Nat) : (boardN h w).length = h * w := by
  induction h with
  | zero => simp [boardN]
  | succ h ih => rw [boardN_succ, List.length_append, ih, Nat.succ_mul]; simp [rowL]
theorem mem_board {h w : Nat} {c : Cell} : c ∈ boardN h w ↔ (0 ≤ c.1 ∧ c.1 < h) ∧ (0 ≤ c.2 ∧ c.2 < w) := by
  unfold boardN rowL
  rw [List.mem_flatMap]
  constructor
  · rintro ⟨r, hr, hc⟩
    obtain ⟨d, hd, rfl⟩ := List.mem_map.mp hc
    have := List.mem_range.mp hr
    have := List.mem_range.mp hd
    dsimp only
    omega
  · rintro ⟨⟨a, b⟩, c1, d⟩
    obtain ⟨x, y⟩ := c
    dsimp only at a b c1 d
    refine ⟨x.toNat, List.mem_range.mpr (by omega), List.mem_map.mpr ⟨y.toNat, List.mem_range.mpr (by omega), ?_⟩⟩
    rw [Int.toNat_of_nonneg a, Int.toNat_of_nonneg c1]
theorem rising_board : ∀ h w : Nat, h ≤ 5 → w ≤ 5 → risingB ltE (boardN h w) = true := by
  intro h w hh hw
  have a : h = 0 ∨ h = 1 ∨ h = 2 ∨ h = 3 ∨ h = 4 ∨ h = 5 := by omega
  have b : w = 0 ∨ w = 1 ∨ w = 2 ∨ w = 3 ∨ w = 4 ∨ w = 5 := by omega
  clear hh hw
  rcases a with rfl | rfl | rfl | rfl | rfl | rfl <;> rcases b with rfl | rfl | rfl | rfl | rfl | rfl <;> kernel_rfl
theorem lookK_ord {ks : List (Kd × Kind)} (nd : (ks.map (·.1)).Nodup) (k : Kd) : lookK (ordK ks) k = lookK ks k := by
  have hm : (ordK ks).map (·.1) = srtE (ks.map (·.1)) := by unfold ordK; rw [List.map_map]; exact List.map_id _
  have nd2 : ((ordK ks).map (·.1)).Nodup := by rw [hm]; exact (srtE_perm _).nodup_iff.mpr nd
  cases h : lookK ks k with
  | some K =>
    have hp : (k, K) ∈ ordK ks := by
      unfold ordK
      refine List.mem_map.mpr ⟨k, mem_srtE.mpr ?_, by simp [getK, h]⟩
      unfold lookK at h
      obtain ⟨p, hp, e⟩ := Option.map_eq_some_iff.mp h
      have h1 := List.find?_some hp
      simp at h1
      exact List.mem_map.mpr ⟨p, List.mem_of_find?_eq_some hp, h1⟩
    exact lookK_mem nd2 hp
  | none =>
    unfold lookK at h ⊢
    rw [Option.map_eq_none_iff, List.find?_eq_none] at h ⊢
    intro p hp
    unfold ordK at hp
    obtain ⟨k', hk', rfl⟩ := List.mem_map.mp hp
    obtain ⟨q, hq, rfl⟩ := List.mem_map.mp (mem_srtE.mp hk')
    have := h q hq
    simpa using this
theorem lookK_in {ks : List (Kd × Kind)} {k : Kd} {K : Kind} (h : lookK ks k = some K) : (k, K) ∈ ks := by
  unfold lookK at h
  obtain ⟨p, hp, e⟩ := Option.map_eq_some_iff.mp h
  have h1 := List.find?_some hp
  simp at h1
  have := List.mem_of_find?_eq_some hp
  obtain ⟨a, b⟩ := p
  simp at h1 e
  subst h1 e
  exact this
end DL
end
section
namespace DL
open PySem PySem.Spec L2 DLS
open PyProof.Rows hiding St
/-! ### pieces rise by their cells -/
theorem cell_lex (c d : Cell) (h : c ≠ d) (A B : List (Int ⊕ List Nat)) : PyProof.Rows.lexLt PyProof.Rows.itemOrd (keyT (enc c) ++ A) (keyT (enc d) ++ B) = PyProof.Rows.lexLt PyProof.Rows.itemOrd (keyT (enc c)) (keyT (enc d)) := by
  obtain ⟨a, b⟩ := c
  obtain ⟨a', b'⟩ := d
  have e : ∀ x y : Int, keyT (enc (((x, y) : Cell))) = [.inl 1, .inl x, .inl 1, .inl y, .inl 0] := fun x y => rfl
  rw [e, e]
  have l1 : ∀ (x y : Int) (T : List (Int ⊕ List Nat)), ([.inl 1, .inl x, .inl 1, .inl y, .inl 0] : List (Int ⊕ List Nat)) ++ T = [.inl 1] ++ (.inl x :: .inl 1 :: .inl y :: .inl 0 :: T) := fun _ _ _ => rfl
  have l2 : ∀ (x y : Int), ([.inl 1, .inl x, .inl 1, .inl y, .inl 0] : List (Int ⊕ List Nat)) = [.inl 1] ++ (.inl x :: [.inl 1, .inl y, .inl 0]) := fun _ _ => rfl
  by_cases h1 : a = a'
  · subst h1
    have h2 : b ≠ b' := fun z => h (by rw [z])
    have n : (.inl b : Int ⊕ List Nat) ≠ .inl b' := fun z => h2 (Sum.inl.inj z)
    have m1 : ∀ (y : Int) (T : List (Int ⊕ List Nat)), ([.inl 1, .inl a, .inl 1, .inl y, .inl 0] : List (Int ⊕ List Nat)) ++ T = [.inl 1, .inl a, .inl 1] ++ (.inl y :: .inl 0 :: T) := fun _ _ => rfl
    have m2 : ∀ (y : Int), ([.inl 1, .inl a, .inl 1, .inl y, .inl 0] : List (Int ⊕ List Nat)) = [.inl 1, .inl a, .inl 1] ++ (.inl y :: [.inl 0]) := fun _ => rfl
    rw [m1, m1, PySem.W.lex_pre, PySem.W.lex_atom n, m2 b, m2 b', PySem.W.lex_pre]
    exact (PySem.W.lex_atom n _ _).symm
  · have n : (.inl a : Int ⊕ List Nat) ≠ .inl a' := fun z => h1 (Sum.inl.inj z)
    rw [l1, l1, PySem.W.lex_pre, PySem.W.lex_atom n, l2 a, l2 a', PySem.W.lex_pre]
    exact (PySem.W.lex_atom n _ _).symm
theorem piece_lt (p q : Piece) (h : p.cell ≠ q.cell) : ltE p q = ltE p.cell q.cell := by
  have e : ∀ p : Piece, keyT (enc p) = [.inl 1] ++ (keyT (enc p.cell) ++ [.inl 1, .inl p.side, .inl 1, .inr (kdS p.kd).cps.toList, .inl 0]) := fun p => rfl
  show PyProof.Rows.lexLt PyProof.Rows.itemOrd (keyT (enc p)) (keyT (enc q)) = PyProof.Rows.lexLt PyProof.Rows.itemOrd (keyT (enc p.cell)) (keyT (enc q.cell))
  rw [e, e, PySem.W.lex_pre, cell_lex _ _ h]
theorem pos_nodup {y : Yd} {p : Pos} (h : isPos y p = true) : (p.ps.map (·.cell)).Nodup := by
  unfold isPos at h
  simp only [Bool.and_eq_true] at h
  have r := h.2.2.1
  have : risingB ltE (p.ps.map (·.cell)) = true := by
    generalize p.ps = L at r
    induction L with
    | nil => rfl
    | cons a L ih =>
      cases L with
      | nil => rfl
      | cons b L =>
        simp only [risingB, Bool.and_eq_true, List.map_cons] at r ih ⊢
        exact ⟨r.1, ih r.2⟩
  exact rising_nodup this
structure IsPos (y : Yd) (p : Pos) : Prop where
  tn : p.turn = 0 ∨ p.turn = 1
  l1 : 1 ≤ p.ps.length
  l10 : p.ps.length ≤ 10
  pc : ∀ q ∈ p.ps, isFree y q.cell = true ∧ (q.side = 0 ∨ q.side = 1) ∧ (lookK y.kinds q.kd).isSome = true
  nd : (p.ps.map (·.cell)).Nodup
  srt : srtE p.ps = p.ps
  cr : crowns y p.ps 0 ≠ [] ∨ crowns y p.ps 1 ≠ []
theorem IsPos.of {y : Yd} {p : Pos} (h : isPos y p = true) : IsPos y p := by
  have nd := pos_nodup h
  unfold isPos sides01 at h
  simp only [Bool.and_eq_true, decide_eq_true_eq, List.all_eq_true] at h
  obtain ⟨⟨h1, h2, h3⟩, h4, h5, h6⟩ := h
  refine ⟨h1, h2, h3, fun q hq => ?_, nd, ?_, ?_⟩
  · have := h4 q hq
    unfold isPiece sides01 at this
    simp only [Bool.and_eq_true, decide_eq_true_eq] at this
    exact this
  · refine srtE_id ?_
    have : ∀ L : List Piece, (L.map (·.cell)).Nodup → risingB ltC L = true → L.Pairwise fun a b => leE a b = true := by
      intro L nd r
      have rp : (L.map (·.cell)).Pairwise fun a b => ltE a b = true := by
        refine rising_pwE ?_
        clear nd
        induction L with
        | nil => rfl
        | cons a L ih =>
          cases L with
          | nil => rfl
          | cons b L =>
            simp only [risingB, Bool.and_eq_true, List.map_cons] at r ih ⊢
            exact ⟨r.1, ih r.2⟩
      rw [List.pairwise_map] at rp
      refine rp.imp fun {a b} z => lt_le ?_
      rw [piece_lt _ _ (lt_ne z)]; exact z
    exact this _ nd h5
  · rw [List.length_append] at h6
    by_cases a : crowns y p.ps 0 = []
    · right; intro b; rw [a, b] at h6; simp at h6
    · exact .inl a
structure Parts where
  h : Nat
  w : Nat
  holes : List Cell
  ks : List (Kd × Kind)
  g0 : List Cell
  g1 : List Cell
  stuck : Str
end DL
end
section
namespace DL
open PySem PySem.Spec L2 DLS
open PyProof.Rows hiding St
/-! ### what a way is -/
theorem rideGo_in {y : Yd} {ps : List Piece} {side : Int} {c s : Cell} : ∀ (n : Nat) (a k : Int), k ∈ rideGo y ps side c s n a → a ≤ k ∧ k < a + n ∧ mayEnd y ps side (goneC c s k) = true ∧ ∀ j, a ≤ j → j < k → isFree y (goneC c s j) = true ∧ pieceAt ps (goneC c s j) = none
  | 0, a, k, h => by simp [rideGo] at h
  | n + 1, a, k, h => by
    unfold rideGo at h
    split at h
    · rename_i hm
      rcases List.mem_cons.mp h with rfl | h
      · exact ⟨by omega, by omega, hm, fun j h1 h2 => by omega⟩
      · split at h
        · cases h
        · rename_i hp
          obtain ⟨h1, h2, h3, h4⟩ := rideGo_in n (a + 1) k h
          refine ⟨by omega, by omega, h3, fun j j1 j2 => ?_⟩
          by_cases e : j = a
          · subst e
            refine ⟨?_, by simpa using hp⟩
            unfold mayEnd at hm
            rw [Bool.and_eq_true] at hm
            exact hm.1
          · exact h4 j (by omega) j2
    · cases h
/-- a way of a piece: the step is one of its kind's, turned; so many times it is gone, over empty cells -/
structure WayOk (y : Yd) (p : Pos) (q : Piece) (K : Kind) (m : Move) (w : Way) : Prop where
  mem : q ∈ p.ps
  side : q.side = p.turn
  cell : q.cell = m.1
  kind : lookK y.kinds q.kd = some K
  fin : mayEnd y p.ps p.turn m.2 = true
  way : ∃ s, w.step = turnS s p.turn ∧ m.2 = goneC m.1 w.step w.n ∧ ((w.ride = false ∧ s ∈ K.leaps ∧ w.n = 1) ∨ (w.ride = true ∧ s ∈ K.rides ∧ 1 ≤ w.n ∧ w.n < 9 ∧ ∀ j, 1 ≤ j → j < w.n → isFree y (goneC m.1 w.step j) = true ∧ pieceAt p.ps (goneC m.1 w.step j) = none))
theorem way_ok {y : Yd} {p : Pos} {m : Move} {w : Way} (h : (m, w) ∈ allWays y p) : ∃ q K, WayOk y p q K m w := by
  unfold allWays at h
  obtain ⟨q, hq, h⟩ := List.mem_flatMap.mp h
  unfold pieceW at h
  split at h
  · rename_i hs
    obtain ⟨z, hz, e⟩ := List.mem_map.mp h
    obtain ⟨c, w'⟩ := z
    injection e with e1 e2
    subst e1 e2
    unfold waysOf at hz
    split at hz
    · rename_i K hK
      refine ⟨q, K, hq, hs, rfl, hK, ?_, ?_⟩
      all_goals
        unfold waysK at hz
        rcases List.mem_append.mp hz with hz | hz
        · obtain ⟨s, h1, h2⟩ := List.mem_flatMap.mp hz
          unfold leapW at h2
          rw [hs] at h2
          split at h2
          · rename_i hm
            simp at h2
            obtain ⟨rfl, rfl⟩ := h2
            first
              | exact hm
              | exact ⟨s, rfl, rfl, .inl ⟨rfl, h1, rfl⟩⟩
          · cases h2
        · obtain ⟨s, h1, h2⟩ := List.mem_flatMap.mp hz
          unfold rideW at h2
          rw [hs] at h2
          obtain ⟨k, hk, e⟩ := List.mem_map.mp h2
          injection e with e1 e2
          subst e1 e2
          obtain ⟨k1, k2, k3, k4⟩ := rideGo_in 8 1 k hk
          first
            | exact k3
            | exact ⟨s, rfl, rfl, .inr ⟨rfl, h1, k1, by show k < 9; omega, k4⟩⟩
    · cases hz
  · cases h
theorem pieceAt_some {ps : List Piece} (nd : (ps.map (·.cell)).Nodup) {q : Piece} (h : q ∈ ps) : pieceAt ps q.cell = some (q.side, q.kd) := by
  unfold pieceAt
  induction ps with
  | nil => cases h
  | cons a ps ih =>
    rw [List.map_cons, List.nodup_cons] at nd
    rw [List.findSome?_cons]
    rcases List.mem_cons.mp h with rfl | h
    · simp
    · have : a.cell ≠ q.cell := fun z => nd.1 (List.mem_map.mpr ⟨q, h, z.symm⟩)
      simp only [this, if_false]
      exact ih nd.2 h
theorem mayEnd_free {y : Yd} {ps : List Piece} {side : Int} {c : Cell} (h : mayEnd y ps side c = true) : isFree y c = true := by
  unfold mayEnd at h
  rw [Bool.and_eq_true] at h
  exact h.1
theorem mayEnd_other {y : Yd} {ps : List Piece} {side : Int} {c : Cell} (nd : (ps.map (·.cell)).Nodup) (h : mayEnd y ps side c = true) {q : Piece} (hq : q ∈ ps) (e : q.cell = c) : q.side ≠ side := by
  unfold mayEnd at h
  rw [Bool.and_eq_true, ← e, pieceAt_some nd hq] at h
  simpa using h.2
/-! ### fewer than 64 moves -/
theorem nodup_len {α : Type} [DecidableEq α] : ∀ {l m : List α}, l.Nodup → (∀ x ∈ l, x ∈ m) → l.length ≤ m.length
  | [], _, _, _ => Nat.zero_le _
  | a :: l, m, nd, h => by
    rw [List.nodup_cons] at nd
    have ha := h a (by simp)
    have ih := nodup_len (l := l) (m := m.erase a) nd.2 fun x hx => by
      have hx' := h x (by simp [hx])
      have : x ≠ a := fun z => nd.1 (z ▸ hx)
      exact (List.mem_erase_of_ne this).mpr hx'
    rw [List.length_erase_of_mem ha] at ih
    have := List.length_pos_of_mem ha
    simp only [List.length_cons]
    omega
theorem prod_len {α β : Type} (xs : List α) (ys : List β) : (xs.flatMap fun a => ys.map fun b => (a, b)).length = xs.length * ys.length := by
  induction xs with
  | nil => simp
  | cons a xs ih => rw [List.flatMap_cons, List.length_append, ih, List.length_map, List.length_cons, Nat.succ_mul, Nat.add_comm]
structure Small (y : Yd) : Prop where
  h0 : 0 ≤ y.h
  h4 : y.h ≤ 4
  w0 : 0 ≤ y.w
  w4 : y.w ≤ 4
/-- a board up to 4 x 4 with up to 7 pieces, or up to 5 x 5 with up to 3 -/
structure Smb (y : Yd) (n : Nat) : Prop where
  h0 : 0 ≤ y.h
  w0 : 0 ≤ y.w
  c : (y.h ≤ 4 ∧ y.w ≤ 4 ∧ n ≤ 7) ∨ (y.h ≤ 5 ∧ y.w ≤ 5 ∧ n ≤ 3)
theorem Smb.mono {y : Yd} {n m : Nat} (s : Smb y n) (h : m ≤ n) : Smb y m := ⟨s.h0, s.w0, s.c.elim (fun z => .inl ⟨z.1, z.2.1, Nat.le_trans h z.2.2⟩) fun z => .inr ⟨z.1, z.2.1, Nat.le_trans h z.2.2⟩⟩
def ownC (p : Pos) : List Cell := (p.ps.filter fun q => decide (q.side = p.turn)).map (·.cell)
theorem own_bound {y : Yd} {p : Pos} (hs : Smb y p.ps.length) (hp : IsPos y p) : ∃ b : Nat, (nubE [] ((allWays y p).map (·.1))).length ≤ (ownC p).length * (b - (ownC p).length) ∧ ((b ≤ 16 ∧ (ownC p).length ≤ 7) ∨ (b ≤ 25 ∧ (ownC p).length ≤ 3 ∧ p.ps.length ≤ 3)) := by
  have hl : p.ps.length ≤ 7 := by have := hs.c; omega
  let own := ownC p
  let brd := boardN y.h.toNat y.w.toNat
  have ondo : own.Nodup := hp.nd.sublist (List.filter_sublist.map _)
  have ol : own.length ≤ 7 := by
    show (List.map _ _).length ≤ 7
    rw [List.length_map]
    exact Nat.le_trans (List.length_filter_le _ _) hl
  have h0 := hs.h0; have w0 := hs.w0; have h4 : y.h ≤ 5 := by have := hs.c; omega
  have w4 : y.w ≤ 5 := by have := hs.c; omega
  have ol3 : own.length ≤ p.ps.length := by
    show (List.map _ _).length ≤ _
    rw [List.length_map]
    exact List.length_filter_le _ _
  have bl : (brd.length ≤ 16 ∧ own.length ≤ 7) ∨ (brd.length ≤ 25 ∧ own.length ≤ 3 ∧ p.ps.length ≤ 3) := by
    rcases hs.c with z | z
    · refine .inl ⟨?_, by omega⟩
      show (boardN _ _).length ≤ _
      rw [boardN_len]
      have : y.h.toNat * y.w.toNat ≤ 4 * 4 := Nat.mul_le_mul (by omega) (by omega)
      omega
    · refine .inr ⟨?_, by omega, z.2.2⟩
      show (boardN _ _).length ≤ _
      rw [boardN_len]
      have : y.h.toNat * y.w.toNat ≤ 5 * 5 := Nat.mul_le_mul (by omega) (by omega)
      omega
  have bnd : brd.Nodup := rising_nodup (rising_board _ _ (by omega) (by omega))
  have inb : ∀ c, isFree y c = true → c ∈ brd := fun c hc => by
    obtain ⟨⟨a, b⟩, d, e⟩ := free_of hc
    exact mem_board.mpr (by omega)
  let oth := brd.filter fun c => !decide (c ∈ own)
  have othl : oth.length + own.length ≤ brd.length := by
    have nd : (oth ++ own).Nodup := by
      rw [List.nodup_append]
      refine ⟨bnd.sublist List.filter_sublist, ondo, fun a ha b hb e => ?_⟩
      have := (List.mem_filter.mp ha).2
      rw [e] at this
      simp [hb] at this
    have := nodup_len nd (m := brd) fun x hx => by
      rcases List.mem_append.mp hx with hx | hx
      · exact (List.mem_filter.mp hx).1
      · obtain ⟨q, hq, rfl⟩ := List.mem_map.mp hx
        exact inb _ (hp.pc q (List.mem_filter.mp hq).1).1
    rw [List.length_append] at this
    omega
  have := nodup_len (l := nubE [] ((allWays y p).map (·.1))) (m := own.flatMap fun a => oth.map fun b => (a, b)) nubE_nodup fun mv hm => by
    rw [mem_nubE] at hm
    obtain ⟨⟨m, w⟩, hw, rfl⟩ := List.mem_map.mp hm.1
    obtain ⟨q, K, W⟩ := way_ok hw
    refine List.mem_flatMap.mpr ⟨m.1, List.mem_map.mpr ⟨q, List.mem_filter.mpr ⟨W.mem, by simp [W.side]⟩, W.cell⟩, List.mem_map.mpr ⟨m.2, List.mem_filter.mpr ⟨inb _ (mayEnd_free W.fin), ?_⟩, rfl⟩⟩
    have : m.2 ∉ own := fun z => by
      obtain ⟨r, hr, e⟩ := List.mem_map.mp z
      obtain ⟨r1, r2⟩ := List.mem_filter.mp hr
      exact mayEnd_other hp.nd W.fin r1 e (by simpa using r2)
    simpa using this
  rw [prod_len] at this
  have hh : own.length * oth.length ≤ own.length * (brd.length - own.length) := Nat.mul_le_mul_left _ (by omega)
  exact ⟨brd.length, Nat.le_trans this hh, bl⟩
theorem mul_few {n b : Nat} (h : (b ≤ 16 ∧ n ≤ 7) ∨ (b ≤ 25 ∧ n ≤ 2)) : n * (b - n) ≤ 63 := by
  rcases h with ⟨b1, n1⟩ | ⟨b1, n1⟩
  · have h1 : n * (b - n) ≤ n * (16 - n) := Nat.mul_le_mul_left _ (by omega)
    have : n = 0 ∨ n = 1 ∨ n = 2 ∨ n = 3 ∨ n = 4 ∨ n = 5 ∨ n = 6 ∨ n = 7 := by omega
    rcases this with rfl | rfl | rfl | rfl | rfl | rfl | rfl | rfl <;> omega
  · have h1 : n * (b - n) ≤ n * (25 - n) := Nat.mul_le_mul_left _ (by omega)
    have : n = 0 ∨ n = 1 ∨ n = 2 := by omega
    rcases this with rfl | rfl | rfl <;> omega
theorem few64 {y : Yd} {p : Pos} (hs : Smb y p.ps.length) (hp : IsPos y p) : Few64 y p := by
  obtain ⟨b, h1, h2⟩ := own_bound hs hp
  unfold Few64
  have : (ownC p).length * (b - (ownC p).length) ≤ 66 := by
    generalize (ownC p).length = n at *
    rcases h2 with h2 | ⟨b1, n1, _⟩
    · have := mul_few (.inl h2); omega
    · by_cases c : n ≤ 2
      · have := mul_few (n := n) (b := b) (.inr ⟨b1, c⟩); omega
      · have : n = 3 := by omega
        subst this
        omega
  omega
end DL
end
section
namespace DL
open PySem PySem.Spec L2 DLS
open PyProof.Rows hiding St
/-! ### the program's doors -/
structure Sit (y : Yd) (p : Pos) : Prop where
  gy : YGood y
  sm : Smb y p.ps.length
  ps : isPos y p = true
  l7 : p.ps.length ≤ 7
theorem Sit.ok {y : Yd} {p : Pos} (S : Sit y p) : POk y p := POk.of S.ps
theorem Sit.ip {y : Yd} {p : Pos} (S : Sit y p) : IsPos y p := IsPos.of S.ps
theorem Sit.few {y : Yd} {p : Pos} (S : Sit y p) : Few64 y p := few64 S.sm S.ip
section
variable {y : Yd} {p : Pos}
/-! ### behind a move -/
end
end DL
end
section
namespace DL
open PySem PySem.Spec L2 DLS
open PyProof.Rows hiding St
/-! ### lines and their numbers -/
section
variable {y : Yd}
end
end DL
end
section
namespace DL
open PySem PySem.Spec L2 DLS
open PyProof.Rows hiding St
section
variable {y : Yd}
end
end DL
end
section
namespace DL
open PySem PySem.Spec L2 DLS
open PyProof.Rows hiding St
/-! ### a comprehension that changes a state -/
/-- a constructed yard is a good one -/
theorem YIn.good {h w : Int} {holes : List Cell} {ks : List (Kd × Kind)} {g0 g1 : List Cell} {stuck : Str} (H : YIn h w holes ks g0 g1 stuck) : YGood (mkY h w holes ks g0 g1 stuck) := by
  have lk : ∀ k K, lookK (mkY h w holes ks g0 g1 stuck).kinds k = some K → (k, K) ∈ ks := fun k K e => by
    have e : lookK (ordK ks) k = some K := e
    rw [lookK_ord H.nd] at e
    exact lookK_in e
  refine ⟨⟨H.h5, H.w5⟩, ?_, ?_, H.lh, ⟨(H.g _ (.inl rfl)).2.1, (H.g _ (.inr rfl)).2.1⟩, H.st⟩
  · intro k K e s hs
    have hk := (H.kk _ (lk k K e)).1
    unfold okKind stepsAll at hk
    simp only [Bool.and_eq_true, List.all_eq_true] at hk
    have := hk.2.2.2 s (List.mem_append.mpr (.inr hs))
    unfold isStep at this
    simp only [Bool.and_eq_true, Bool.not_eq_true', decide_eq_false_iff_not] at this
    exact this.1
  · intro k K e
    exact (H.kk _ (lk k K e)).2
end DL
end
section
namespace DL
open PySem PySem.Spec L2 DLS
open PyProof.Rows hiding St
/-! ### what must hold ahead of a run: weakest conditions -/
@[irreducible] def Wp {α : Type} (m : M α) (ρ : DL.Env) (Q : α → DL.Env → Prop) (X : Str → DL.Env → Prop) : Prop := match m ρ with
  | .ok a ρ' => Q a ρ'
  | .exc c ρ' => X c ρ'
  | .stuck => False
@[irreducible] def Fp (r : FRes) (Q : D → List OC → Prop) (X : Str → List OC → Prop) : Prop := match r with
  | .ok d os => Q d os
  | .exc c os => X c os
  | .stuck => False
abbrev noX {α : Type} : Str → α → Prop := fun _ _ => False
section
variable {α β : Type} {ρ ρ' : DL.Env} {X : Str → DL.Env → Prop} {Q : α → DL.Env → Prop} {QD : D → DL.Env → Prop} {QB : Bool → DL.Env → Prop} {QL : List D → DL.Env → Prop} {QA : List Ag → DL.Env → Prop} {QF : Flow → DL.Env → Prop} {QU : Unit → DL.Env → Prop} {QC : OC → DL.Env → Prop}
theorem Wp_of {m : M α} {a : α} (h : m ρ = .ok a ρ') : Wp m ρ Q X = Q a ρ' := by unfold Wp; rw [h]
@[simp] theorem Fp_ok {d : D} {os : List OC} {P : D → List OC → Prop} {Y : Str → List OC → Prop} : Fp (.ok d os) P Y = P d os := by unfold Fp; rfl
@[simp] theorem Fp_ex {d : Str} {os : List OC} {P : D → List OC → Prop} {Y : Str → List OC → Prop} : Fp (.exc d os) P Y = Y d os := by unfold Fp; rfl
@[simp] theorem Fp_stuck {P : D → List OC → Prop} {Y : Str → List OC → Prop} : Fp .stuck P Y = False := by unfold Fp; rfl
theorem Fp_ok' {r : FRes} {P : D → List OC → Prop} (h : Fp r P noX) : ∃ d os, r = .ok d os ∧ P d os := by
  unfold Fp at h
  cases r with
  | ok a ρ' => exact ⟨a, ρ', rfl, h⟩
  | exc c ρ' => exact h.elim
  | stuck => exact h.elim
theorem Wp_mono {m : M α} {Q' : α → DL.Env → Prop} {X' : Str → DL.Env → Prop} (h : Wp m ρ Q X) (hq : ∀ a ρ', Q a ρ' → Q' a ρ') (hx : ∀ c ρ', X c ρ' → X' c ρ') : Wp m ρ Q' X' := by
  unfold Wp at h ⊢
  cases e : m ρ with
  | ok a ρ' => rw [e] at h; exact hq _ _ h
  | exc c ρ' => rw [e] at h; exact hx _ _ h
  | stuck => rw [e] at h; exact h.elim
@[simp] theorem Wp_pure (a : α) : Wp (pureM a) ρ Q X = Q a ρ := by unfold Wp; rfl
@[simp] theorem Wp_bind (m : M β) (k : β → M α) : Wp (bindM m k) ρ Q X = Wp m ρ (fun a ρ' => Wp (k a) ρ' Q X) X := by
  unfold Wp bindM
  cases m ρ <;> rfl
@[simp] theorem Wp_stuck : Wp (stuckM : M α) ρ Q X = False := by unfold Wp; rfl
@[simp] theorem Wp_lift (o : Option α) : Wp (liftM o) ρ Q X = ∃ z, o = some z ∧ Q z ρ := by
  cases o with
  | none => simp [liftM]
  | some z => simp [liftM]
@[simp] theorem Wp_getM (i : Nat) : Wp (getM i) ρ QD X = ∃ x, ρ[i]? = some (.d x) ∧ QD x ρ := by
  unfold Wp getM
  cases e : ρ[i]? with
  | none => simp
  | some s => cases s <;> simp
@[simp] theorem Wp_getO (i : Nat) : Wp (getO i) ρ QL X = ∃ x, ρ[i]? = some (.own x) ∧ QL x ρ := by
  unfold Wp getO
  cases e : ρ[i]? with
  | none => simp
  | some s =>
    match s with
    | .cell (.l xs) => simp
    | .cell (.k _ _) => simp
    | .no => simp
    | .d _ => simp
    | .exn _ => simp
@[simp] theorem Wp_getC (i : Nat) : Wp (getC i) ρ QC X = ∃ x, ρ[i]? = some (.cell x) ∧ QC x ρ := by
  unfold Wp getC
  cases e : ρ[i]? with
  | none => simp
  | some s => cases s <;> simp
@[simp] theorem Wp_rdM (i : Nat) : Wp (rdM i) ρ QD X = ((∃ x, ρ[i]? = some (.d x) ∧ QD x ρ) ∨ (∃ c, ρ[i]? = some (.cell c) ∧ QD (ocD c) (ρ.set i (.d (ocD c))))) := by
  unfold Wp rdM
  cases e : ρ[i]? with
  | none => simp
  | some s => cases s <;> simp
@[simp] theorem Wp_putO (i : Nat) (xs : List D) : Wp (putO i xs) ρ QU X = QU () (ρ.set i (.own xs)) := by unfold Wp; rfl
@[simp] theorem Wp_putC (i : Nat) (c : OC) : Wp (putC i c) ρ QU X = QU () (ρ.set i (.cell c)) := by unfold Wp; rfl
@[simp] theorem Wp_haveS (i : Nat) : Wp (haveS i) ρ QU X = ((∃ c, ρ[i]? = some (.cell c)) ∧ QU () ρ ∨ (∃ c, ρ[i]? = some (.exn c)) ∧ QU () ρ) := by
  unfold Wp haveS
  cases e : ρ[i]? with
  | none => simp
  | some s => cases s <;> simp
@[simp] theorem Wp_op2 (g : D → D → Option D) (fa fb : M D) : Wp (op2 g fa fb) ρ QD X = Wp fa ρ (fun x ρ1 => Wp fb ρ1 (fun y ρ2 => ∃ z, g x y = some z ∧ QD z ρ2) X) X := by simp [op2]
@[simp] theorem Wp_opO (i : Nat) (g : List D → D → Option D) (fb : M D) : Wp (opO i g fb) ρ QD X = Wp fb ρ (fun y ρ1 => Wp (getO i) ρ1 (fun xs ρ2 => ∃ z, g xs y = some z ∧ QD z ρ2) X) X := by simp [opO]
@[simp] theorem Wp_opC (i : Nat) (g : OC → D → Option D) (fb : M D) : Wp (opC i g fb) ρ QD X = Wp fb ρ (fun y ρ1 => Wp (getC i) ρ1 (fun xs ρ2 => ∃ z, g xs y = some z ∧ QD z ρ2) X) X := by simp [opC]
def isBl : D → Prop
  | .bl _ => True
  | _ => False
def blOf : D → Bool
  | .bl b => b
  | _ => false
@[simp] theorem isBl_bl (b : Bool) : isBl (.bl b) = True := rfl
@[simp] theorem blOf_bl (b : Bool) : blOf (.bl b) = b := rfl
theorem Wp_mB {d : D} : Wp (match d with | .bl b => pureM b | _ => stuckM) ρ QB X = (isBl d ∧ QB (blOf d) ρ) := by cases d <;> simp [isBl]
@[simp] theorem Wp_boolM (f : M D) : Wp (boolM f) ρ QB X = Wp f ρ (fun d ρ' => isBl d ∧ QB (blOf d) ρ') X := by
  unfold boolM
  rw [Wp_bind]
  congr 1
  funext d ρ'
  exact Wp_mB
@[simp] theorem Wp_andM (f g : M Bool) : Wp (andM f g) ρ QB X = Wp f ρ (fun b ρ' => if b = true then Wp g ρ' QB X else QB false ρ') X := by
  unfold andM
  rw [Wp_bind]
  congr 1
  funext d ρ'
  cases d <;> simp
@[simp] theorem Wp_orM (f g : M Bool) : Wp (orM f g) ρ QB X = Wp f ρ (fun b ρ' => if b = true then QB true ρ' else Wp g ρ' QB X) X := by
  unfold orM
  rw [Wp_bind]
  congr 1
  funext d ρ'
  cases d <;> simp
@[simp] theorem Wp_notM (f : M Bool) : Wp (notM f) ρ QB X = Wp f ρ (fun b ρ' => QB (!b) ρ') X := by simp [notM]
@[simp] theorem Wp_andV (f g : M D) : Wp (andV f g) ρ QD X = Wp f ρ (fun d ρ' => isBl d ∧ if blOf d = true then Wp g ρ' QD X else QD (.bl false) ρ') X := by
  unfold andV
  rw [Wp_bind]
  congr 1
  funext d ρ'
  cases d with
  | bl b => cases b <;> simp [isBl]
  | _ => simp [isBl]
@[simp] theorem Wp_orV (f g : M D) : Wp (orV f g) ρ QD X = Wp f ρ (fun d ρ' => isBl d ∧ if blOf d = true then QD (.bl true) ρ' else Wp g ρ' QD X) X := by
  unfold orV
  rw [Wp_bind]
  congr 1
  funext d ρ'
  cases d with
  | bl b => cases b <;> simp [isBl]
  | _ => simp [isBl]
@[simp] theorem Wp_notV (f : M D) : Wp (notV f) ρ QD X = Wp f ρ (fun d ρ' => isBl d ∧ QD (.bl (!blOf d)) ρ') X := by
  unfold notV
  rw [Wp_bind]
  congr 1
  funext d ρ'
  cases d <;> simp [isBl]
@[simp] theorem Wp_isN (f : M D) : Wp (isN f) ρ QD X = Wp f ρ (fun d ρ' => QD (.bl (isNb d)) ρ') X := by simp [isN]
@[simp] theorem Wp_notN (f : M D) : Wp (notN f) ρ QD X = Wp f ρ (fun d ρ' => QD (.bl (!isNb d)) ρ') X := by simp [notN]
@[simp] theorem Wp_negM (f : M D) : Wp (negM f) ρ QD X = Wp f ρ (fun d ρ' => ∃ i, d = .int i ∧ QD (.int (-i)) ρ') X := by
  unfold negM
  rw [Wp_bind]
  congr 1
  funext d ρ'
  cases d <;> simp
@[simp] theorem Wp_iteM (c : M Bool) (f g : M α) : Wp (iteM c f g) ρ Q X = Wp c ρ (fun b ρ' => if b = true then Wp f ρ' Q X else Wp g ρ' Q X) X := by
  unfold iteM
  rw [Wp_bind]
  congr 1
  funext d ρ'
  cases d <;> simp
@[simp] theorem Wp_consM (f : M D) (g : M (List D)) : Wp (consM f g) ρ QL X = Wp f ρ (fun x ρ1 => Wp g ρ1 (fun xs ρ2 => QL (x :: xs) ρ2) X) X := by simp [consM]
@[simp] theorem Wp_consA (f : M D) (g : M (List Ag)) : Wp (consA f g) ρ QA X = Wp f ρ (fun x ρ1 => Wp g ρ1 (fun xs ρ2 => QA (.d x :: xs) ρ2) X) X := by simp [consA]
@[simp] theorem Wp_consS (i : Nat) (g : M (List Ag)) : Wp (consS i g) ρ QA X = Wp g ρ (fun xs ρ2 => QA (.sl i :: xs) ρ2) X := by simp [consS]
@[simp] theorem Wp_consC (f : M OC) (g : M (List Ag)) : Wp (consC f g) ρ QA X = Wp f ρ (fun x ρ1 => Wp g ρ1 (fun xs ρ2 => QA (.tmp x :: xs) ρ2) X) X := by simp [consC]
@[simp] theorem Wp_lstM (f : M (List D)) : Wp (lstM f) ρ QD X = Wp f ρ (fun x ρ1 => QD (.lst x) ρ1) X := by simp [lstM]
@[simp] theorem Wp_ocL (f : M (List D)) : Wp (ocL f) ρ QC X = Wp f ρ (fun x ρ1 => QC (.l x) ρ1) X := by simp [ocL]
@[simp] theorem Wp_ocM (f : M OC) : Wp (ocM f) ρ QD X = Wp f ρ (fun x ρ1 => QD (ocD x) ρ1) X := by simp [ocM]
theorem Wp_ite {p : Prop} [Decidable p] (m : M α) : Wp (if p then m else stuckM) ρ Q X = (p ∧ Wp m ρ Q X) := by
  by_cases h : p <;> simp [h]
@[simp] theorem Wp_sizeM (f : M (List D)) : Wp (sizeM f) ρ QL X = Wp f ρ (fun x ρ1 => x.length ≤ sizeLine ∧ QL x ρ1) X := by
  unfold sizeM
  rw [Wp_bind]
  congr 1
  funext d ρ'
  rw [Wp_ite, Wp_pure]
@[simp] theorem Wp_tupM (f : M (List D)) : Wp (tupM f) ρ QD X = Wp f ρ (fun x ρ1 => x.length ≤ sizeLine ∧ QD (.tup x) ρ1) X := by
  unfold tupM
  rw [Wp_bind, Wp_sizeM]
  simp only [Wp_pure]
@[simp] theorem Wp_callD (g : List D → Option D) (f : M (List D)) : Wp (callD g f) ρ QD X = Wp f ρ (fun x ρ1 => ∃ z, g x = some z ∧ QD z ρ1) X := by simp [callD]
@[simp] theorem Wp_callO (g : List D → Option (List D)) (f : M (List D)) : Wp (callO g f) ρ QL X = Wp f ρ (fun x ρ1 => ∃ z, g x = some z ∧ QL z ρ1) X := by simp [callO]
@[simp] theorem Wp_itemsGM (f : M D) : Wp (itemsGM f) ρ QL X = Wp f ρ (fun x ρ1 => ∃ z, itemsG x = some z ∧ QL z ρ1) X := by simp [itemsGM]
@[simp] theorem Wp_itemsM (f : M D) : Wp (itemsM f) ρ QL X = Wp f ρ (fun x ρ1 => ∃ z, itemsOf x = some z ∧ QL z ρ1) X := by simp [itemsM]
@[simp] theorem Wp_rg1M (f : M (List D)) : Wp (rg1M f) ρ QL X = Wp f ρ (fun x ρ1 => ∃ z, rg1 x = some z ∧ QL z ρ1) X := by simp [rg1M]
@[simp] theorem Wp_rg2M (f : M (List D)) : Wp (rg2M f) ρ QL X = Wp f ρ (fun x ρ1 => ∃ z, rg2 x = some z ∧ QL z ρ1) X := by simp [rg2M]
@[simp] theorem Wp_isiM (T : String) (f : M D) : Wp (isiM T f) ρ QD X = Wp f ρ (fun x ρ1 => ∃ z, (isTy T x).map D.bl = some z ∧ QD z ρ1) X := by simp [isiM]
@[simp] theorem Wp_catM (fa fb : M D) : Wp (catM fa fb) ρ QL X = Wp fa ρ (fun x ρ1 => Wp fb ρ1 (fun y ρ2 => ∃ z, catD x y = some z ∧ QL z ρ2) X) X := by simp [catM]
@[simp] theorem Wp_partM (f : M D) (QO : Option Int → DL.Env → Prop) : Wp (partM f) ρ QO X = Wp f ρ (fun d ρ' => ∃ i, d = .int i ∧ QO (some i) ρ') X := by
  unfold partM
  rw [Wp_bind]
  congr 1
  funext d ρ'
  cases d <;> simp
@[simp] theorem Wp_slM (fe : M D) (fl fh : M (Option Int)) : Wp (slM fe fl fh) ρ QD X = Wp fe ρ (fun x ρ1 => Wp fl ρ1 (fun l ρ2 => Wp fh ρ2 (fun h ρ3 => ∃ z, slD l h x = some z ∧ QD z ρ3) X) X) X := by simp [slM]
@[simp] theorem Wp_revM (f : M D) : Wp (revM f) ρ QD X = Wp f ρ (fun d ρ' => ∃ xs, d = .lst xs ∧ QD (.lst xs.reverse) ρ') X := by
  unfold revM
  rw [Wp_bind]
  congr 1
  funext d ρ'
  cases d <;> simp
def mtR : Option (D × List D) → (D → List D → Prop) → Prop
  | some z, P => P z.1 z.2
  | none, _ => False
@[simp] theorem mtR_some (d : D) (xs : List D) (P : D → List D → Prop) : mtR (some (d, xs)) P = P d xs := rfl
theorem mtR_ex (o : Option (D × List D)) (P : D → List D → Prop) : (∃ z, o = some z ∧ P z.1 z.2) = mtR o P := by
  cases o with
  | none => simp [mtR]
  | some z => simp [mtR]
@[simp] theorem Wp_mtO (i : Nat) (g : List D → List D → Option (D × List D)) (f : M (List D)) : Wp (mtO i g f) ρ QD X = Wp (getO i) ρ (fun _ ρ0 => Wp f ρ0 (fun ds ρ1 => Wp (getO i) ρ1 (fun xs ρ2 => mtR (g xs ds) fun d ys => QD d (ρ2.set i (.own ys))) X) X) X := by
  unfold mtO
  simp only [Wp_bind, Wp_lift, Wp_putO, Wp_pure, mtR_ex]
  congr 1
  funext a b
  congr 1
  funext c d
  congr 1
  funext xs ρ2
  exact mtR_ex _ (fun d ys => QD d (ρ2.set i (.own ys)))
@[simp] theorem Wp_lenO (i : Nat) : Wp (lenO i) ρ QD X = Wp (getO i) ρ (fun xs ρ0 => QD (.int xs.length) ρ0) X := by simp [lenO]
theorem Wp_mF {d : D} {QL : D → DL.Env → Prop} : Wp (match d with | .ins c' ns ds => if c' = c then liftM (fldD f ns ds) else stuckM | _ => stuckM) ρ QL X = ∃ z, getF c f d = some z ∧ QL z ρ := by
  cases d with
  | ins c' ns ds =>
    by_cases h : c' = c
    · simp [getF, h]
    · simp [getF, h]
  | _ => simp [getF]
@[simp] theorem Wp_fldM (c f : Str) (fo : M D) : Wp (fldM c f fo) ρ QD X = Wp fo ρ (fun d ρ' => ∃ z, getF c f d = some z ∧ QD z ρ') X := by
  unfold fldM
  rw [Wp_bind]
  congr 1
  funext d ρ'
  exact Wp_mF
/-! calls -/
@[simp] theorem Wp_mdM (md : List Bool) (fa : M (List Ag)) : Wp (mdM md fa) ρ QA X = Wp fa ρ (fun ags ρ1 => (ags.map (toSl ρ1)).map isOwn = md ∧ QA ags ρ1) X := by
  unfold mdM
  rw [Wp_bind]
  congr 1
  funext ags ρ1
  unfold Wp
  by_cases h : (ags.map (toSl ρ1)).map isOwn = md
  · simp only [h, if_true, true_and]
  · simp only [h, if_false, false_and]
@[simp] theorem Wp_callM (f : Fn) (fa : M (List Ag)) : Wp (callM f fa) ρ QD X = Wp fa ρ (fun ags ρ1 => (slots ags).Nodup ∧ Fp (f (ags.map (toSl ρ1))) (fun d os => QD d (putBack ags os ρ1)) (fun c os => X c (putBack ags os ρ1))) X := by
  unfold callM
  rw [Wp_bind]
  congr 1
  funext ags ρ1
  unfold Wp Fp
  by_cases h : (slots ags).Nodup
  · simp only [h, if_true, true_and]
    cases f (ags.map (toSl ρ1)) <;> rfl
  · simp only [h, if_false, false_and]
@[simp] theorem Wp_callL (f : Fn) (fa : M (List Ag)) : Wp (callL f fa) ρ QL X = Wp (callM f fa) ρ (fun d ρ' => ∃ ds, d = .lst ds ∧ QL ds ρ') X := by
  unfold callL
  rw [Wp_bind]
  congr 1
  funext d ρ'
  cases d <;> simp
theorem Wp_mM {d : D} {c nm : Str} {md : List Bool} {f : Fn} {fa : M (List Ag)} : Wp (match d with | .ins c' ns ds => if c' = c ∧ nm ∉ ns then callM f (mdM md (bindM fa fun ags => pureM (.d (.ins c' ns ds) :: ags))) else stuckM | _ => stuckM) ρ QD X = (isIns c nm d = true ∧ Wp (callM f (mdM md (bindM fa fun ags => pureM (.d d :: ags)))) ρ QD X) := by
  cases d with
  | ins c' ns ds =>
    by_cases h : c' = c ∧ nm ∉ ns
    · simp only [isIns, h, not_false_eq_true, and_self, if_true, decide_true, true_and]
    · simp only [isIns, h, if_false, decide_false, Wp_stuck, Bool.false_eq_true, false_and]
  | _ => simp [isIns]
@[simp] theorem Wp_methD (c nm : Str) (md : List Bool) (f : Fn) (fo : M D) (fa : M (List Ag)) : Wp (methD c nm md f fo fa) ρ QD X = Wp fo ρ (fun d ρ' => isIns c nm d = true ∧ Wp (callM f (mdM md (bindM fa fun ags => pureM (.d d :: ags)))) ρ' QD X) X := by
  unfold methD
  rw [Wp_bind]
  congr 1
  funext d ρ'
  exact Wp_mM
@[simp] theorem Wp_makeM (n : Nat) (fI : List D → Res D) (fa : M (List D)) : Wp (makeM n fI fa) ρ QD X = Wp fa ρ (fun as ρ1 => (as.length = n ∧ noInsL as = true) ∧ (match fI as with | .ok d _ => QD d ρ1 | .exc e _ => X e ρ1 | .stuck => False)) X := by
  unfold makeM
  rw [Wp_bind]
  congr 1
  funext as ρ1
  unfold Wp
  by_cases h : as.length = n ∧ noInsL as = true
  · simp only [h, and_self, if_true, true_and]
    cases fI as <;> rfl
  · simp only [h, if_false, false_and]
/-! statements -/
@[simp] theorem Wp_seqM (a b : MS) : Wp (seqM a b) ρ QF X = Wp a ρ (fun fl ρ' => match fl with | .nx => Wp b ρ' QF X | .ret d => QF (.ret d) ρ' | .brk => QF .brk ρ' | .ct => QF .ct ρ') X := by
  unfold Wp
  rw [seqM_ap]
  cases a ρ with
  | ok fl ρ' => cases fl <;> rfl
  | _ => rfl
@[simp] theorem Wp_skipM : Wp skipM ρ QF X = QF .nx ρ := by unfold Wp; rfl
@[simp] theorem Wp_setM (i : Nat) (f : M D) : Wp (setM i f) ρ QF X = Wp f ρ (fun d ρ' => QF .nx (ρ'.set i (.d d))) X := by unfold setM; rw [Wp_bind]; unfold Wp; rfl
@[simp] theorem Wp_setOM (i : Nat) (f : M (List D)) : Wp (setOM i f) ρ QF X = Wp f ρ (fun d ρ' => QF .nx (ρ'.set i (.own d))) X := by unfold setOM; rw [Wp_bind]; unfold Wp; rfl
@[simp] theorem Wp_setCM (i : Nat) (f : M OC) : Wp (setCM i f) ρ QF X = Wp f ρ (fun d ρ' => QF .nx (ρ'.set i (.cell d))) X := by unfold setCM; rw [Wp_bind]; unfold Wp; rfl
@[simp] theorem Wp_setXM (i : Nat) (f : M D) : Wp (setXM i f) ρ QF X = Wp f ρ (fun d ρ' => match conOf d with | some c => QF .nx (ρ'.set i (.cell c)) | none => QF .nx (ρ'.set i (.d d))) X := by
  unfold setXM
  rw [Wp_bind]
  congr 1
  funext d ρ'
  unfold Wp
  cases conOf d <;> rfl
@[simp] theorem Wp_dropM (f : M D) : Wp (dropM f) ρ QF X = Wp f ρ (fun d ρ' => QF .nx ρ') X := by unfold dropM; rw [Wp_bind]; unfold Wp; rfl
@[simp] theorem Wp_retM (f : M D) : Wp (retM f) ρ QF X = Wp f ρ (fun d ρ' => QF (.ret d) ρ') X := by unfold retM; rw [Wp_bind]; unfold Wp; rfl
@[simp] theorem Wp_retOM (f : M (List D)) : Wp (retOM f) ρ QF X = Wp f ρ (fun d ρ' => QF (.ret (.lst d)) ρ') X := by unfold retOM; rw [Wp_bind]; unfold Wp; rfl
@[simp] theorem Wp_retXM (f : M D) : Wp (retXM f) ρ QF X = Wp f ρ (fun d ρ' => conOf d = none ∧ QF (.ret d) ρ') X := by
  unfold retXM
  rw [Wp_bind]
  congr 1
  funext d ρ'
  unfold Wp
  cases conOf d with
  | none => simp
  | some c => simp
@[simp] theorem Wp_ifM (c : M Bool) (a b : MS) : Wp (ifM c a b) ρ QF X = Wp c ρ (fun t ρ' => if t = true then Wp a ρ' QF X else Wp b ρ' QF X) X := by
  unfold ifM
  rw [Wp_bind]
  congr 1
  funext d ρ'
  cases d <;> simp
@[simp] theorem Wp_raiseM (c : Str) : Wp (raiseM c) ρ QF X = X c ρ := by unfold Wp; rfl
@[simp] theorem Wp_giveM (i : Nat) : Wp (giveM i) ρ QL X = ∃ x, ρ[i]? = some (.own x) ∧ QL x (ρ.set i .no) := by
  unfold giveM
  rw [Wp_bind, Wp_getO]; unfold Wp; rfl
@[simp] theorem Wp_giveX (i : Nat) : Wp (giveX i) ρ QD X = ∃ x, ρ[i]? = some (.cell x) ∧ QD (ocD x) (ρ.set i .no) := by
  unfold giveX
  rw [Wp_bind, Wp_getC]; unfold Wp; rfl
@[simp] theorem Wp_setIM (i : Nat) (fk fe : M D) : Wp (setIM i fk fe) ρ QF X = Wp fe ρ (fun d ρ1 => Wp (getO i) ρ1 (fun _ ρ2 => Wp fk ρ2 (fun z ρ3 => Wp (getO i) ρ3 (fun xs ρ4 => ∃ ys, ixSet xs z d = some ys ∧ QF .nx (ρ4.set i (.own ys))) X) X) X) X := by simp [setIM]
@[simp] theorem Wp_setGM (g : OC → D → D → Option OC) (i : Nat) (fk fe : M D) : Wp (setGM g i fk fe) ρ QF X = Wp fe ρ (fun d ρ1 => Wp (getC i) ρ1 (fun _ ρ2 => Wp fk ρ2 (fun z ρ3 => Wp (getC i) ρ3 (fun c ρ4 => ∃ c', g c z d = some c' ∧ QF .nx (ρ4.set i (.cell c'))) X) X) X) X := by simp [setGM]
@[simp] theorem Wp_forD (it : M (List D)) (tg : TgF) (body : MS) : Wp (forD it tg body) ρ QF X = Wp it ρ (fun xs ρ' => Wp (forM tg body xs) ρ' QF X) X := by unfold forD; rw [Wp_bind]
@[simp] theorem Wp_forN (tg : TgF) (body : MS) : Wp (forM tg body []) ρ QF X = QF .nx ρ := by unfold Wp; rfl
theorem Wp_forC (tg : TgF) (body : MS) (x : D) (xs : List D) : Wp (forM tg body (x :: xs)) ρ QF X = ∃ ρ1, tg x ρ = some ρ1 ∧ Wp body ρ1 (fun fl ρ2 => match fl with | .nx => Wp (forM tg body xs) ρ2 QF X | .ct => Wp (forM tg body xs) ρ2 QF X | .brk => QF .nx ρ2 | .ret d => QF (.ret d) ρ2) X := by
  unfold Wp
  conv => lhs; unfold forM
  cases e : tg x ρ with
  | none => simp
  | some ρ1 =>
    simp only [Option.some.injEq, exists_eq_left']
    cases body ρ1 with
    | ok fl ρ2 => cases fl <;> rfl
    | _ => rfl
@[simp] theorem Wp_asgM (f : M D) (t : TgF) : Wp (asgM f t) ρ QF X = Wp f ρ (fun d ρ' => ∃ ρ2, t d ρ' = some ρ2 ∧ QF .nx ρ2) X := by
  unfold asgM
  rw [Wp_bind]
  congr 1
  funext d ρ'
  unfold Wp
  dsimp only
  cases t d ρ' with
  | none => simp
  | some ρ2 => simp
@[simp] theorem Wp_parM (i j : Nat) (f : M (List D)) : Wp (parM i j f) ρ QF X = Wp f ρ (fun ds ρ' => ∃ x y, ds = [x, y] ∧ QF .nx ((ρ'.set i (.d x)).set j (.d y))) X := by
  unfold parM
  rw [Wp_bind]
  congr 1
  funext ds ρ'
  unfold Wp
  dsimp only
  match ds with
  | [] => simp
  | [_] => simp
  | [_, _] => exact propext ⟨fun h => ⟨_, _, rfl, h⟩, fun ⟨_, _, e, h⟩ => by cases e; exact h⟩
  | _ :: _ :: _ :: _ => simp
theorem Wp_mC {x y : D} {g : D → D → Option D} {fc : M D} {g' : D → D → Option D} : Wp (bindM (liftM (g x y)) fun z => match z with | .bl true => bindM fc fun w => liftM (g' y w) | .bl false => pureM (.bl false) | _ => stuckM) ρ QD X = ∃ c, g x y = some c ∧ isBl c ∧ if blOf c = true then Wp fc ρ (fun z ρ3 => ∃ u, g' y z = some u ∧ QD u ρ3) X else QD (.bl false) ρ := by
  rw [Wp_bind, Wp_lift]
  cases g x y with
  | none => simp
  | some d =>
    cases d with
    | bl b => cases b <;> simp [isBl]
    | _ => simp [isBl]
@[simp] theorem Wp_chainM (g g' : D → D → Option D) (fa fb fc : M D) : Wp (chainM g g' fa fb fc) ρ QD X = Wp fa ρ (fun x ρ1 => Wp fb ρ1 (fun y ρ2 => ∃ c, g x y = some c ∧ isBl c ∧ if blOf c = true then Wp fc ρ2 (fun z ρ3 => ∃ u, g' y z = some u ∧ QD u ρ3) X else QD (.bl false) ρ2) X) X := by
  unfold chainM
  rw [Wp_bind]
  congr 1
  funext x ρ1
  rw [Wp_bind]
  congr 1
  funext y ρ2
  exact Wp_mC
@[simp] theorem Wp_pairsN (QP : List (D × D) → DL.Env → Prop) : Wp (pairsM []) ρ QP X = QP [] ρ := by unfold Wp; rfl
@[simp] theorem Wp_pairsC (fk fv : M D) (r : List (M D × M D)) (QP : List (D × D) → DL.Env → Prop) : Wp (pairsM ((fk, fv) :: r)) ρ QP X = Wp fk ρ (fun x ρ1 => Wp fv ρ1 (fun y ρ2 => Wp (pairsM r) ρ2 (fun ps ρ3 => QP ((x, y) :: ps) ρ3) X) X) X := by
  show Wp (bindM fk _) ρ QP X = _
  simp
@[simp] theorem Wp_dicC (fs : List (M D × M D)) : Wp (dicC fs) ρ QC X = Wp (pairsM fs) ρ (fun ps ρ1 => (difK (ps.map (·.1)) = true ∧ ps.length ≤ 15) ∧ QC (.k (ps.map (·.1)) (ps.map (·.2))) ρ1) X := by
  unfold dicC
  rw [Wp_bind]
  congr 1
  funext ps ρ1
  rw [Wp_ite, Wp_pure]
@[simp] theorem Wp_dicM (fs : List (M D × M D)) : Wp (dicM fs) ρ QD X = Wp (pairsM fs) ρ (fun ps ρ1 => (difK (ps.map (·.1)) = true ∧ ps.length ≤ 15) ∧ QD (.dic (ps.map (·.1)) (ps.map (·.2))) ρ1) X := by
  unfold dicM
  rw [Wp_bind]
  congr 1
  funext ps ρ1
  rw [Wp_ite, Wp_pure]
@[simp] theorem Wp_lendM (f : M D) : Wp (lendM f) ρ QD X = Wp f (dataE ρ) (fun d _ => atomD d = true ∧ QD d ρ) noX := by
  unfold Wp lendM
  cases f (dataE ρ) with
  | ok d ρ' =>
    dsimp only
    by_cases h : atomD d = true
    · simp [h]
    · simp [h]
  | _ => rfl
@[simp] theorem Wp_lendT (f : M Bool) : Wp (lendT f) ρ QB X = Wp f (dataE ρ) (fun b _ => QB b ρ) noX := by
  unfold Wp lendT
  cases f (dataE ρ) <;> rfl
@[simp] theorem Wp_exnM (i : Nat) (g : Str → Option Bool) : Wp (exnM i g) ρ QD X = ∃ c, ρ[i]? = some (.exn c) ∧ ∃ z, (g c).map D.bl = some z ∧ QD z ρ := by
  unfold Wp exnM
  cases e : ρ[i]? with
  | none => simp
  | some s =>
    cases s with
    | exn c =>
      dsimp only
      cases hg : g c with
      | none => simp [hg]
      | some b => cases b <;> simp [hg]
    | _ => simp
@[simp] theorem Wp_tryM (i : Nat) (sub : Str → Option Bool) (body : MS) (suite : Str → MS) : Wp (tryM i sub body suite) ρ QF X = Wp body ρ QF (fun c ρ1 => (sub c = some true ∧ Wp (suite c) (ρ1.set i (.exn c)) (fun fl ρ2 => noExn (ρ2.set i .no) = true ∧ QF fl (ρ2.set i .no)) noX) ∨ (sub c = some false ∧ X c ρ1)) := by
  unfold Wp tryM
  cases e : body ρ with
  | exc c ρ1 =>
    dsimp only
    cases h : sub c with
    | none => simp
    | some b =>
      cases b with
      | true =>
        dsimp only
        cases h2 : suite c (ρ1.set i (.exn c)) with
        | ok fl ρ2 =>
          dsimp only
          by_cases h3 : noExn (ρ2.set i .no) = true
          · simp [h3]
          · simp [h3]
        | _ => simp
      | false => simp
  | _ => rfl
end
/-- a def by its body -/
theorem Fp_fnM {rm : Bool} {n : Nat} {body : MS} {ρ : DL.Env} {P : D → List OC → Prop} {Y : Str → List OC → Prop} : Fp (fnM rm n body ρ) P Y = Wp body (ρ ++ List.replicate (n - ρ.length) .no) (fun fl ρ' => match fl with | .nx => rm = false ∧ P .non (collect ρ ρ') | .ret d => P d (collect ρ ρ') | _ => False) (fun c ρ' => Y c (collect ρ ρ')) := by
  unfold Fp Wp
  rw [fnM_ap]
  cases body (ρ ++ List.replicate (n - ρ.length) .no) with
  | ok fl ρ' =>
    cases fl with
    | nx => cases rm <;> simp
    | ret d => rfl
    | _ => rfl
  | _ => rfl
/-- a; then b, with what holds between -/
theorem Wp_cut {a b : MS} {ρ : DL.Env} {QF : Flow → DL.Env → Prop} {X : Str → DL.Env → Prop} (R : DL.Env → Prop) (h : ∀ N : DL.Env → Prop, (∀ ρ', R ρ' → N ρ') → Wp a ρ (fun fl ρ' => fl = .nx ∧ N ρ') X) (h2 : ∀ ρ', R ρ' → Wp b ρ' QF X) : Wp (seqM a b) ρ QF X := by
  rw [Wp_seqM]
  exact Wp_mono (h R fun _ z => z) (fun fl ρ' ⟨e, r⟩ => by subst e; exact h2 ρ' r) fun _ _ z => z
end DL
end
section
namespace DL
open PySem PySem.Spec L2 DLS
open PyProof.Rows hiding St
@[simp] theorem putBack_sl (i : Nat) (r : List Ag) (o : OC) (os : List OC) (ρ : DL.Env) : putBack (.sl i :: r) (o :: os) ρ = (match ρ.getD i .no with | .cell _ => putBack r os (ρ.set i (.cell o)) | _ => putBack r (o :: os) ρ) := by
  show (match ρ.getD i .no, o :: os with | .cell _, o :: os' => putBack r os' (ρ.set i (.cell o)) | _, os => putBack r os ρ) = _
  cases ρ.getD i .no <;> rfl
theorem rg1_nat' (n : Nat) (h : n ≤ 1000000) : rg1 [.int n] = some ((List.range n).map fun (i : Nat) => D.int (i : Int)) := by
  rw [rg1_nat n h]
  simp
section
variable {ρ : DL.Env} {X : Str → DL.Env → Prop} {QF : Flow → DL.Env → Prop} {QL : List D → DL.Env → Prop}
/-- for x in xs -/
theorem Wp_forT {α : Type} {e : α → D} {tg : TgF} {body : MS} (R : List α → DL.Env → Prop) (xs : List α) (r : R [] ρ)
    (h : ∀ pre x post ρ, xs = pre ++ x :: post → R pre ρ → ∀ N : DL.Env → Prop, (∀ ρ', R (pre ++ [x]) ρ' → N ρ') → ∃ ρ1, tg (e x) ρ = some ρ1 ∧ Wp body ρ1 (fun fl ρ2 => match fl with | .nx => N ρ2 | .ct => N ρ2 | .ret d => QF (.ret d) ρ2 | .brk => QF .nx ρ2) X)
    (fin : ∀ ρ', R xs ρ' → QF .nx ρ') : Wp (forM tg body (xs.map e)) ρ QF X := by
  have go : ∀ (post pre : List α) (ρ : DL.Env), xs = pre ++ post → R pre ρ → Wp (forM tg body (post.map e)) ρ QF X := by
    intro post
    induction post with
    | nil =>
      intro pre ρ ea r
      rw [List.append_nil] at ea
      subst ea
      rw [List.map_nil, Wp_forN]; exact fin _ r
    | cons x post ih =>
      intro pre ρ ea r
      rw [List.map_cons, Wp_forC]
      obtain ⟨ρ1, h1, h2⟩ := h pre x post ρ ea r (R (pre ++ [x])) fun _ z => z
      refine ⟨ρ1, h1, Wp_mono h2 ?_ fun _ _ z => z⟩
      intro fl ρ2 h3
      cases fl with
      | nx => exact ih (pre ++ [x]) ρ2 (by rw [ea]; simp) h3
      | ct => exact ih (pre ++ [x]) ρ2 (by rw [ea]; simp) h3
      | ret d => exact h3
      | brk => exact h3
  exact go xs [] ρ rfl r
/-- for k in range(n) -/
theorem Wp_forR {tg : TgF} {body : MS} (R : Nat → DL.Env → Prop) (n : Nat) (r : R 0 ρ)
    (h : ∀ k ρ, k < n → R k ρ → ∀ N : DL.Env → Prop, (∀ ρ', R (k + 1) ρ' → N ρ') → ∃ ρ1, tg (.int k) ρ = some ρ1 ∧ Wp body ρ1 (fun fl ρ2 => match fl with | .nx => N ρ2 | .ct => N ρ2 | .ret d => QF (.ret d) ρ2 | .brk => QF .nx ρ2) X)
    (fin : ∀ ρ', R n ρ' → QF .nx ρ') : Wp (forM tg body ((List.range n).map fun (i : Nat) => D.int (i : Int))) ρ QF X := by
  have rl : ∀ (pre : List Nat) (x : Nat) (post : List Nat), List.range n = pre ++ x :: post → x = pre.length ∧ x < n := fun pre x post ea => by
    have h1 : (List.range n)[pre.length]? = some x := by rw [ea]; simp
    have h2 : pre.length < n := by have := congrArg List.length ea; simp at this; omega
    rw [List.getElem?_range h2] at h1
    have := Option.some.inj h1
    omega
  refine Wp_forT (fun pre ρ => R pre.length ρ) (List.range n) r ?_ ?_
  · intro pre x post ρ ea r N hN
    obtain ⟨e, hx⟩ := rl pre x post ea
    have el : (pre ++ [x]).length = x + 1 := by rw [List.length_append, e]; rfl
    exact h x ρ hx (by rw [e]; exact r) N fun ρ' z => hN ρ' (by rw [el]; exact z)
  · intro ρ' r
    rw [List.length_range] at r
    exact fin _ r
end
section
variable {ρ : DL.Env} {X : Str → DL.Env → Prop} {QF : Flow → DL.Env → Prop}
end
@[simp] theorem Wp_mtV (T : String) (g : D → List D → Option D) (fo : M D) (fa : M (List D)) {ρ : DL.Env} {X : Str → DL.Env → Prop} {QD : D → DL.Env → Prop} : Wp (mtV T g fo fa) ρ QD X = Wp fo ρ (fun d ρ1 => tyD T d = true ∧ Wp fa ρ1 (fun xs ρ2 => ∃ z, g d xs = some z ∧ QD z ρ2) X) X := by
  unfold mtV tyM
  simp only [Wp_bind, Wp_ite, Wp_pure, Wp_lift]
/-! a tuple whose last is a container of the def's own -/
@[simp] theorem splitA_sl (i : Nat) : splitA [.sl i] = some ([], i) := rfl
@[simp] theorem splitA_d (x : D) (r : List Ag) : splitA (.d x :: r) = (splitA r).map fun z => (x :: z.1, z.2) := by
  cases r <;> rfl
def spR : Option (List D × Nat) → (List D → Nat → Prop) → Prop
  | some z, P => P z.1 z.2
  | none, _ => False
@[simp] theorem spR_some (xs : List D) (i : Nat) (P : List D → Nat → Prop) : spR (some (xs, i)) P = P xs i := rfl
@[simp] theorem spR_map (o : Option (List D × Nat)) (x : D) (P : List D → Nat → Prop) : spR (o.map fun z => (x :: z.1, z.2)) P = spR o fun xs i => P (x :: xs) i := by cases o <;> rfl
@[simp] theorem Wp_tupT (i : Nat) (fa : M (List Ag)) {ρ : DL.Env} {X : Str → DL.Env → Prop} {QD : D → DL.Env → Prop} : Wp (tupT i fa) ρ QD X = Wp fa ρ (fun ags ρ1 => spR (splitA ags) fun xs j => j = i ∧ ags.length ≤ sizeLine ∧ ∃ c, ρ1[i]? = some (.cell c) ∧ QD (.tup (xs ++ [ocD c])) (ρ1.set i .no)) X := by
  unfold tupT
  rw [Wp_bind]
  congr 1
  funext ags ρ1
  unfold Wp
  cases splitA ags with
  | none => rfl
  | some z =>
    show _ = (z.2 = i ∧ ags.length ≤ sizeLine ∧ ∃ c, ρ1[i]? = some (.cell c) ∧ QD (.tup (z.1 ++ [ocD c])) (ρ1.set i .no))
    by_cases h : z.2 = i ∧ ags.length ≤ sizeLine
    · simp only [h, and_self, if_true]
      cases e : ρ1[i]? with
      | none => simp
      | some s => cases s <;> simp
    · simp only [h, if_false]
      simp
      intro a b
      exact absurd ⟨a, b⟩ h
@[simp] theorem Wp_asgX (n : Nat) (f : M D) (t : TgxF) {ρ : DL.Env} {X : Str → DL.Env → Prop} {QF : Flow → DL.Env → Prop} : Wp (asgX n f t) ρ QF X = Wp f ρ (fun d ρ1 => ∃ z, splitT d = some z ∧ z.1.length + 1 = n ∧ ∃ ρ2, t z.1 z.2 ρ1 = some ρ2 ∧ QF .nx ρ2) X := by
  unfold asgX
  rw [Wp_bind]
  congr 1
  funext d ρ1
  unfold Wp
  cases splitT d with
  | none => simp
  | some z =>
    by_cases h : z.1.length + 1 = n
    · simp only [h, if_true]
      cases e : t z.1 z.2 ρ1 with
      | none => simp [h, e]
      | some s => simp [h, e]
    · simp [h]
end DL
end
section
namespace DL
open PySem PySem.Spec L2 DLS
open PyProof.Rows hiding St
def lw0 : MS := setM 1 (dicM [(pureM (.str "k"), tupM (consM (lstM (sizeM (consM (tupM (consM (pureM (.int 0)) (consM (pureM (.int 1)) (pureM [])))) (pureM [])))) (consM (lstM (sizeM (pureM []))) (consM (pureM (.int 1)) (pureM []))))), (pureM (.str "p"), tupM (consM (lstM (sizeM (pureM []))) (consM (lstM (sizeM (consM (tupM (consM (pureM (.int 1)) (consM (pureM (.int 0)) (pureM [])))) (pureM [])))) (consM (pureM (.int 0)) (pureM [])))))])
def lw1 : MS := setM 2 (makeM 6 (iniF 13 "Yard" Mi.Yard_ini) (consM (pureM (.int 2)) (consM (pureM (.int 3)) (consM (lstM (sizeM (consM (tupM (consM (pureM (.int 1)) (consM (pureM (.int 1)) (pureM [])))) (pureM [])))) (consM (getM 1) (consM (tupM (consM (lstM (sizeM (consM (tupM (consM (pureM (.int 0)) (consM (pureM (.int 2)) (pureM [])))) (pureM [])))) (consM (lstM (sizeM (pureM []))) (pureM [])))) (consM (pureM (.str "drawn")) (pureM []))))))))
def lw2 : MS := setM 3 (tupM (consM (tupM (consM (tupM (consM (pureM (.int 0)) (consM (pureM (.int 0)) (pureM [])))) (consM (pureM (.int 0)) (consM (pureM (.str "k")) (pureM []))))) (consM (tupM (consM (tupM (consM (pureM (.int 1)) (consM (pureM (.int 2)) (pureM [])))) (consM (pureM (.int 1)) (consM (pureM (.str "k")) (pureM []))))) (pureM []))))
def lw3 : MS := setM 4 (lstM (sizeM (consM (tupM (consM (negM (pureM (.int 1))) (consM (getM 3) (pureM [])))) (consM (tupM (consM (pureM (.int 0)) (consM (tupM (pureM [])) (pureM [])))) (consM (tupM (consM (pureM (.int 0)) (consM (tupM (consM (tupM (consM (tupM (consM (pureM (.int 0)) (consM (pureM (.int 0)) (pureM [])))) (consM (pureM (.int 0)) (consM (pureM (.str "p")) (pureM []))))) (pureM []))) (pureM [])))) (consM (tupM (consM (pureM (.int 0)) (consM (tupM (consM (tupM (consM (tupM (consM (pureM (.int 1)) (consM (pureM (.int 1)) (pureM [])))) (consM (pureM (.int 0)) (consM (pureM (.str "k")) (pureM []))))) (pureM []))) (pureM [])))) (consM (tupM (consM (pureM (.int 1)) (consM (rvM (getM 3)) (pureM [])))) (pureM []))))))))
def lw4 : MS := setM 5 (callM Mi.law_cell_at (mdM [false, false] (consA (getM 0) (consA (pureM (.int 0)) (pureM [])))))
def lw5_b_0 : MS := setM 7 (op2 modD (op2 addD (getM 5) (getM 6)) (pureM (.int 40)))
def lw5_b_1 : MS := ifM (boolM (op2 neD (callM Mi.law_kind_own (mdM [false, false, false, false] (consA (getM 2) (consA (op2 ixX (getM 4) (op2 divD (getM 7) (pureM (.int 8)))) (consA (op2 ixX (lstM (sizeM (consM (pureM (.int 0)) (consM (pureM (.int 2)) (pureM []))))) (op2 modD (getM 5) (pureM (.int 2)))) (consA (op2 modD (getM 7) (pureM (.int 8))) (pureM []))))))) (op2 ixX (lstM (sizeM (consM (pureM (.int 0)) (consM (pureM (.int 0)) (consM (pureM (.int 0)) (consM (pureM (.int 0)) (consM (pureM (.int 0)) (consM (pureM (.int 0)) (consM (pureM (.int 2)) (consM (pureM (.int 0)) (pureM []))))))))))) (op2 modD (getM 7) (pureM (.int 8)))))) (retM (pureM (.bl false))) skipM
def lw5_b : MS := seqM lw5_b_0 lw5_b_1
def lw5 : MS := forD (rg1M (consM (pureM (.int 40)) (pureM []))) (tgN 6) lw5_b
def lw6_b_0 : MS := ifM (boolM (op2 neD (callM Mi.law_kind_own (mdM [false, false, false, false] (consA (getM 2) (consA (tupM (consM (pureM (.int 0)) (consM (getM 3) (pureM [])))) (consA (op2 ixX (lstM (sizeM (consM (pureM (.int 2)) (consM (negM (pureM (.int 1))) (pureM []))))) (op2 modD (getM 5) (pureM (.int 2)))) (consA (getM 8) (pureM []))))))) (op2 ixX (lstM (sizeM (consM (pureM (.int 8)) (consM (pureM (.int 8)) (consM (pureM (.int 4)) (consM (pureM (.int 1)) (consM (pureM (.int 1)) (consM (pureM (.int 5)) (consM (pureM (.int 8)) (consM (pureM (.int 1)) (pureM []))))))))))) (getM 8)))) (retM (pureM (.bl false))) skipM
def lw6_b_1 : MS := ifM (boolM (op2 neD (callM Mi.law_kind_own (mdM [false, false, false, false] (consA (getM 2) (consA (tupM (consM (pureM (.int 0)) (consM (getM 3) (pureM [])))) (consA (op2 modD (getM 5) (pureM (.int 2))) (consA (getM 8) (pureM []))))))) (op2 ixX (lstM (sizeM (consM (pureM (.int 8)) (consM (pureM (.int 8)) (consM (pureM (.int 4)) (consM (pureM (.int 8)) (consM (pureM (.int 2)) (consM (pureM (.int 5)) (consM (pureM (.int 8)) (consM (pureM (.int 8)) (pureM []))))))))))) (getM 8)))) (retM (pureM (.bl false))) skipM
def lw6_b : MS := seqM lw6_b_0 lw6_b_1
def lw6 : MS := forD (rg1M (consM (pureM (.int 8)) (pureM []))) (tgN 8) lw6_b
def lw7 : MS := retM (andV (op2 isBD (callM Mi.ranks_hold (mdM [false, false] (consA (getM 2) (consA (ocM (pureM (.k [] []))) (pureM []))))) (pureM (.bl true))) (op2 isBD (callM Mi.stay_holds (mdM [false, false, false, false] (consA (getM 2) (consA (tupM (consM (pureM (.int 0)) (consM (getM 3) (pureM [])))) (consA (op2 modD (getM 5) (pureM (.int 2))) (consA (lstM (sizeM (pureM []))) (pureM []))))))) (pureM (.bl false))))
theorem lw_eq : Mi.law = fnM false 9 (seqM lw0 (seqM lw1 (seqM lw2 (seqM lw3 (seqM lw4 (seqM lw5 (seqM lw6 lw7))))))) := rfl

def vK : D := (.dic [(.str "k"), (.str "p")] [(.tup [(.lst [(.tup [(.int 0), (.int 1)])]), (.lst []), (.int 1)]), (.tup [(.lst []), (.lst [(.tup [(.int 1), (.int 0)])]), (.int 0)])])
def vY : D := .ins "Yard" ["height", "width", "holes", "stuck", "goals", "kinds"] [(.int 2), (.int 3), (.lst [(.tup [(.int 1), (.int 1)])]), (.str "drawn"), (.tup [(.lst [(.tup [(.int 0), (.int 2)])]), (.lst [])]), (.dic [(.str "k"), (.str "p")] [(.tup [(.lst [(.tup [(.int 0), (.int 1)])]), (.lst []), (.int 1)]), (.tup [(.lst []), (.lst [(.tup [(.int 1), (.int 0)])]), (.int 0)])])]
def vG : D := (.tup [(.tup [(.tup [(.int 0), (.int 0)]), (.int 0), (.str "k")]), (.tup [(.tup [(.int 1), (.int 2)]), (.int 1), (.str "k")])])
def vB0 : D := (.tup [(.int (-1)), (.tup [(.tup [(.tup [(.int 0), (.int 0)]), (.int 0), (.str "k")]), (.tup [(.tup [(.int 1), (.int 2)]), (.int 1), (.str "k")])])])
def vB1 : D := (.tup [(.int 0), (.tup [])])
def vB2 : D := (.tup [(.int 0), (.tup [(.tup [(.tup [(.int 0), (.int 0)]), (.int 0), (.str "p")])])])
def vB3 : D := (.tup [(.int 0), (.tup [(.tup [(.tup [(.int 1), (.int 1)]), (.int 0), (.str "k")])])])
def vB4 : D := (.tup [(.int 1), (.tup [(.tup [(.tup [(.int 1), (.int 2)]), (.int 1), (.str "k")]), (.tup [(.tup [(.int 0), (.int 0)]), (.int 0), (.str "k")])])])
def vQ : D := .tup [.int 0, vG]
def vB : D := .lst [vB0, vB1, vB2, vB3, vB4]
theorem s01 (s : D) : lw0 [.d s, .no, .no, .no, .no, .no, .no, .no, .no] = .ok .nx [.d s, .d vK, .no, .no, .no, .no, .no, .no, .no] := by kernel_rfl
theorem s12 (s : D) : lw1 [.d s, .d vK, .no, .no, .no, .no, .no, .no, .no] = .ok .nx [.d s, .d vK, .d vY, .no, .no, .no, .no, .no, .no] := by kernel_rfl
theorem s23 (s : D) : lw2 [.d s, .d vK, .d vY, .no, .no, .no, .no, .no, .no] = .ok .nx [.d s, .d vK, .d vY, .d vG, .no, .no, .no, .no, .no] := by kernel_rfl
theorem s34 (s : D) : lw3 [.d s, .d vK, .d vY, .d vG, .no, .no, .no, .no, .no] = .ok .nx [.d s, .d vK, .d vY, .d vG, .d vB, .no, .no, .no, .no] := by kernel_rfl
theorem kb_0_0_0 : Mi.law_kind_own [.d vY, .d vB0, .d (.int 0), .d (.int 0)] = .ok (.int 0) [] := by kernel_rfl
theorem kb_0_0_1 : Mi.law_kind_own [.d vY, .d vB0, .d (.int 0), .d (.int 1)] = .ok (.int 0) [] := by kernel_rfl
theorem kb_0_0_2 : Mi.law_kind_own [.d vY, .d vB0, .d (.int 0), .d (.int 2)] = .ok (.int 0) [] := by kernel_rfl
theorem kb_0_0_3 : Mi.law_kind_own [.d vY, .d vB0, .d (.int 0), .d (.int 3)] = .ok (.int 0) [] := by kernel_rfl
theorem kb_0_0_4 : Mi.law_kind_own [.d vY, .d vB0, .d (.int 0), .d (.int 4)] = .ok (.int 0) [] := by kernel_rfl
theorem kb_0_0_5 : Mi.law_kind_own [.d vY, .d vB0, .d (.int 0), .d (.int 5)] = .ok (.int 0) [] := by kernel_rfl
theorem kb_0_0_6 : Mi.law_kind_own [.d vY, .d vB0, .d (.int 0), .d (.int 6)] = .ok (.int 2) [] := by kernel_rfl
theorem kb_0_0_7 : Mi.law_kind_own [.d vY, .d vB0, .d (.int 0), .d (.int 7)] = .ok (.int 0) [] := by kernel_rfl
theorem kb_0_2_0 : Mi.law_kind_own [.d vY, .d vB0, .d (.int 2), .d (.int 0)] = .ok (.int 0) [] := by kernel_rfl
theorem kb_0_2_1 : Mi.law_kind_own [.d vY, .d vB0, .d (.int 2), .d (.int 1)] = .ok (.int 0) [] := by kernel_rfl
theorem kb_0_2_2 : Mi.law_kind_own [.d vY, .d vB0, .d (.int 2), .d (.int 2)] = .ok (.int 0) [] := by kernel_rfl
theorem kb_0_2_3 : Mi.law_kind_own [.d vY, .d vB0, .d (.int 2), .d (.int 3)] = .ok (.int 0) [] := by kernel_rfl
theorem kb_0_2_4 : Mi.law_kind_own [.d vY, .d vB0, .d (.int 2), .d (.int 4)] = .ok (.int 0) [] := by kernel_rfl
theorem kb_0_2_5 : Mi.law_kind_own [.d vY, .d vB0, .d (.int 2), .d (.int 5)] = .ok (.int 0) [] := by kernel_rfl
theorem kb_0_2_6 : Mi.law_kind_own [.d vY, .d vB0, .d (.int 2), .d (.int 6)] = .ok (.int 2) [] := by kernel_rfl
theorem kb_0_2_7 : Mi.law_kind_own [.d vY, .d vB0, .d (.int 2), .d (.int 7)] = .ok (.int 0) [] := by kernel_rfl
theorem kb_1_0_0 : Mi.law_kind_own [.d vY, .d vB1, .d (.int 0), .d (.int 0)] = .ok (.int 0) [] := by kernel_rfl
theorem kb_1_0_1 : Mi.law_kind_own [.d vY, .d vB1, .d (.int 0), .d (.int 1)] = .ok (.int 0) [] := by kernel_rfl
theorem kb_1_0_2 : Mi.law_kind_own [.d vY, .d vB1, .d (.int 0), .d (.int 2)] = .ok (.int 0) [] := by kernel_rfl
theorem kb_1_0_3 : Mi.law_kind_own [.d vY, .d vB1, .d (.int 0), .d (.int 3)] = .ok (.int 0) [] := by kernel_rfl
theorem kb_1_0_4 : Mi.law_kind_own [.d vY, .d vB1, .d (.int 0), .d (.int 4)] = .ok (.int 0) [] := by kernel_rfl
theorem kb_1_0_5 : Mi.law_kind_own [.d vY, .d vB1, .d (.int 0), .d (.int 5)] = .ok (.int 0) [] := by kernel_rfl
theorem kb_1_0_6 : Mi.law_kind_own [.d vY, .d vB1, .d (.int 0), .d (.int 6)] = .ok (.int 2) [] := by kernel_rfl
theorem kb_1_0_7 : Mi.law_kind_own [.d vY, .d vB1, .d (.int 0), .d (.int 7)] = .ok (.int 0) [] := by kernel_rfl
theorem kb_1_2_0 : Mi.law_kind_own [.d vY, .d vB1, .d (.int 2), .d (.int 0)] = .ok (.int 0) [] := by kernel_rfl
theorem kb_1_2_1 : Mi.law_kind_own [.d vY, .d vB1, .d (.int 2), .d (.int 1)] = .ok (.int 0) [] := by kernel_rfl
theorem kb_1_2_2 : Mi.law_kind_own [.d vY, .d vB1, .d (.int 2), .d (.int 2)] = .ok (.int 0) [] := by kernel_rfl
theorem kb_1_2_3 : Mi.law_kind_own [.d vY, .d vB1, .d (.int 2), .d (.int 3)] = .ok (.int 0) [] := by kernel_rfl
theorem kb_1_2_4 : Mi.law_kind_own [.d vY, .d vB1, .d (.int 2), .d (.int 4)] = .ok (.int 0) [] := by kernel_rfl
theorem kb_1_2_5 : Mi.law_kind_own [.d vY, .d vB1, .d (.int 2), .d (.int 5)] = .ok (.int 0) [] := by kernel_rfl
theorem kb_1_2_6 : Mi.law_kind_own [.d vY, .d vB1, .d (.int 2), .d (.int 6)] = .ok (.int 2) [] := by kernel_rfl
theorem kb_1_2_7 : Mi.law_kind_own [.d vY, .d vB1, .d (.int 2), .d (.int 7)] = .ok (.int 0) [] := by kernel_rfl
theorem kb_2_0_0 : Mi.law_kind_own [.d vY, .d vB2, .d (.int 0), .d (.int 0)] = .ok (.int 0) [] := by kernel_rfl
theorem kb_2_0_1 : Mi.law_kind_own [.d vY, .d vB2, .d (.int 0), .d (.int 1)] = .ok (.int 0) [] := by kernel_rfl
theorem kb_2_0_2 : Mi.law_kind_own [.d vY, .d vB2, .d (.int 0), .d (.int 2)] = .ok (.int 0) [] := by kernel_rfl
theorem kb_2_0_3 : Mi.law_kind_own [.d vY, .d vB2, .d (.int 0), .d (.int 3)] = .ok (.int 0) [] := by kernel_rfl
theorem kb_2_0_4 : Mi.law_kind_own [.d vY, .d vB2, .d (.int 0), .d (.int 4)] = .ok (.int 0) [] := by kernel_rfl
theorem kb_2_0_5 : Mi.law_kind_own [.d vY, .d vB2, .d (.int 0), .d (.int 5)] = .ok (.int 0) [] := by kernel_rfl
theorem kb_2_0_6 : Mi.law_kind_own [.d vY, .d vB2, .d (.int 0), .d (.int 6)] = .ok (.int 2) [] := by kernel_rfl
theorem kb_2_0_7 : Mi.law_kind_own [.d vY, .d vB2, .d (.int 0), .d (.int 7)] = .ok (.int 0) [] := by kernel_rfl
theorem kb_2_2_0 : Mi.law_kind_own [.d vY, .d vB2, .d (.int 2), .d (.int 0)] = .ok (.int 0) [] := by kernel_rfl
theorem kb_2_2_1 : Mi.law_kind_own [.d vY, .d vB2, .d (.int 2), .d (.int 1)] = .ok (.int 0) [] := by kernel_rfl
theorem kb_2_2_2 : Mi.law_kind_own [.d vY, .d vB2, .d (.int 2), .d (.int 2)] = .ok (.int 0) [] := by kernel_rfl
theorem kb_2_2_3 : Mi.law_kind_own [.d vY, .d vB2, .d (.int 2), .d (.int 3)] = .ok (.int 0) [] := by kernel_rfl
theorem kb_2_2_4 : Mi.law_kind_own [.d vY, .d vB2, .d (.int 2), .d (.int 4)] = .ok (.int 0) [] := by kernel_rfl
theorem kb_2_2_5 : Mi.law_kind_own [.d vY, .d vB2, .d (.int 2), .d (.int 5)] = .ok (.int 0) [] := by kernel_rfl
theorem kb_2_2_6 : Mi.law_kind_own [.d vY, .d vB2, .d (.int 2), .d (.int 6)] = .ok (.int 2) [] := by kernel_rfl
theorem kb_2_2_7 : Mi.law_kind_own [.d vY, .d vB2, .d (.int 2), .d (.int 7)] = .ok (.int 0) [] := by kernel_rfl
theorem kb_3_0_0 : Mi.law_kind_own [.d vY, .d vB3, .d (.int 0), .d (.int 0)] = .ok (.int 0) [] := by kernel_rfl
theorem kb_3_0_1 : Mi.law_kind_own [.d vY, .d vB3, .d (.int 0), .d (.int 1)] = .ok (.int 0) [] := by kernel_rfl
theorem kb_3_0_2 : Mi.law_kind_own [.d vY, .d vB3, .d (.int 0), .d (.int 2)] = .ok (.int 0) [] := by kernel_rfl
theorem kb_3_0_3 : Mi.law_kind_own [.d vY, .d vB3, .d (.int 0), .d (.int 3)] = .ok (.int 0) [] := by kernel_rfl
theorem kb_3_0_4 : Mi.law_kind_own [.d vY, .d vB3, .d (.int 0), .d (.int 4)] = .ok (.int 0) [] := by kernel_rfl
theorem kb_3_0_5 : Mi.law_kind_own [.d vY, .d vB3, .d (.int 0), .d (.int 5)] = .ok (.int 0) [] := by kernel_rfl
theorem kb_3_0_6 : Mi.law_kind_own [.d vY, .d vB3, .d (.int 0), .d (.int 6)] = .ok (.int 2) [] := by kernel_rfl
theorem kb_3_0_7 : Mi.law_kind_own [.d vY, .d vB3, .d (.int 0), .d (.int 7)] = .ok (.int 0) [] := by kernel_rfl
theorem kb_3_2_0 : Mi.law_kind_own [.d vY, .d vB3, .d (.int 2), .d (.int 0)] = .ok (.int 0) [] := by kernel_rfl
theorem kb_3_2_1 : Mi.law_kind_own [.d vY, .d vB3, .d (.int 2), .d (.int 1)] = .ok (.int 0) [] := by kernel_rfl
theorem kb_3_2_2 : Mi.law_kind_own [.d vY, .d vB3, .d (.int 2), .d (.int 2)] = .ok (.int 0) [] := by kernel_rfl
theorem kb_3_2_3 : Mi.law_kind_own [.d vY, .d vB3, .d (.int 2), .d (.int 3)] = .ok (.int 0) [] := by kernel_rfl
theorem kb_3_2_4 : Mi.law_kind_own [.d vY, .d vB3, .d (.int 2), .d (.int 4)] = .ok (.int 0) [] := by kernel_rfl
theorem kb_3_2_5 : Mi.law_kind_own [.d vY, .d vB3, .d (.int 2), .d (.int 5)] = .ok (.int 0) [] := by kernel_rfl
theorem kb_3_2_6 : Mi.law_kind_own [.d vY, .d vB3, .d (.int 2), .d (.int 6)] = .ok (.int 2) [] := by kernel_rfl
theorem kb_3_2_7 : Mi.law_kind_own [.d vY, .d vB3, .d (.int 2), .d (.int 7)] = .ok (.int 0) [] := by kernel_rfl
theorem kb_4_0_0 : Mi.law_kind_own [.d vY, .d vB4, .d (.int 0), .d (.int 0)] = .ok (.int 0) [] := by kernel_rfl
theorem kb_4_0_1 : Mi.law_kind_own [.d vY, .d vB4, .d (.int 0), .d (.int 1)] = .ok (.int 0) [] := by kernel_rfl
theorem kb_4_0_2 : Mi.law_kind_own [.d vY, .d vB4, .d (.int 0), .d (.int 2)] = .ok (.int 0) [] := by kernel_rfl
theorem kb_4_0_3 : Mi.law_kind_own [.d vY, .d vB4, .d (.int 0), .d (.int 3)] = .ok (.int 0) [] := by kernel_rfl
theorem kb_4_0_4 : Mi.law_kind_own [.d vY, .d vB4, .d (.int 0), .d (.int 4)] = .ok (.int 0) [] := by kernel_rfl
theorem kb_4_0_5 : Mi.law_kind_own [.d vY, .d vB4, .d (.int 0), .d (.int 5)] = .ok (.int 0) [] := by kernel_rfl
theorem kb_4_0_6 : Mi.law_kind_own [.d vY, .d vB4, .d (.int 0), .d (.int 6)] = .ok (.int 2) [] := by kernel_rfl
theorem kb_4_0_7 : Mi.law_kind_own [.d vY, .d vB4, .d (.int 0), .d (.int 7)] = .ok (.int 0) [] := by kernel_rfl
theorem kb_4_2_0 : Mi.law_kind_own [.d vY, .d vB4, .d (.int 2), .d (.int 0)] = .ok (.int 0) [] := by kernel_rfl
theorem kb_4_2_1 : Mi.law_kind_own [.d vY, .d vB4, .d (.int 2), .d (.int 1)] = .ok (.int 0) [] := by kernel_rfl
theorem kb_4_2_2 : Mi.law_kind_own [.d vY, .d vB4, .d (.int 2), .d (.int 2)] = .ok (.int 0) [] := by kernel_rfl
theorem kb_4_2_3 : Mi.law_kind_own [.d vY, .d vB4, .d (.int 2), .d (.int 3)] = .ok (.int 0) [] := by kernel_rfl
theorem kb_4_2_4 : Mi.law_kind_own [.d vY, .d vB4, .d (.int 2), .d (.int 4)] = .ok (.int 0) [] := by kernel_rfl
theorem kb_4_2_5 : Mi.law_kind_own [.d vY, .d vB4, .d (.int 2), .d (.int 5)] = .ok (.int 0) [] := by kernel_rfl
theorem kb_4_2_6 : Mi.law_kind_own [.d vY, .d vB4, .d (.int 2), .d (.int 6)] = .ok (.int 2) [] := by kernel_rfl
theorem kb_4_2_7 : Mi.law_kind_own [.d vY, .d vB4, .d (.int 2), .d (.int 7)] = .ok (.int 0) [] := by kernel_rfl
theorem kg_2_0 : Mi.law_kind_own [.d vY, .d vQ, .d (.int 2), .d (.int 0)] = .ok (.int 8) [] := by kernel_rfl
theorem kg_2_1 : Mi.law_kind_own [.d vY, .d vQ, .d (.int 2), .d (.int 1)] = .ok (.int 8) [] := by kernel_rfl
theorem kg_2_2 : Mi.law_kind_own [.d vY, .d vQ, .d (.int 2), .d (.int 2)] = .ok (.int 4) [] := by kernel_rfl
theorem kg_2_3 : Mi.law_kind_own [.d vY, .d vQ, .d (.int 2), .d (.int 3)] = .ok (.int 1) [] := by kernel_rfl
theorem kg_2_4 : Mi.law_kind_own [.d vY, .d vQ, .d (.int 2), .d (.int 4)] = .ok (.int 1) [] := by kernel_rfl
theorem kg_2_5 : Mi.law_kind_own [.d vY, .d vQ, .d (.int 2), .d (.int 5)] = .ok (.int 5) [] := by kernel_rfl
theorem kg_2_6 : Mi.law_kind_own [.d vY, .d vQ, .d (.int 2), .d (.int 6)] = .ok (.int 8) [] := by kernel_rfl
theorem kg_2_7 : Mi.law_kind_own [.d vY, .d vQ, .d (.int 2), .d (.int 7)] = .ok (.int 1) [] := by kernel_rfl
theorem kg_m1_0 : Mi.law_kind_own [.d vY, .d vQ, .d (.int (-1)), .d (.int 0)] = .ok (.int 8) [] := by kernel_rfl
theorem kg_m1_1 : Mi.law_kind_own [.d vY, .d vQ, .d (.int (-1)), .d (.int 1)] = .ok (.int 8) [] := by kernel_rfl
theorem kg_m1_2 : Mi.law_kind_own [.d vY, .d vQ, .d (.int (-1)), .d (.int 2)] = .ok (.int 4) [] := by kernel_rfl
theorem kg_m1_3 : Mi.law_kind_own [.d vY, .d vQ, .d (.int (-1)), .d (.int 3)] = .ok (.int 1) [] := by kernel_rfl
theorem kg_m1_4 : Mi.law_kind_own [.d vY, .d vQ, .d (.int (-1)), .d (.int 4)] = .ok (.int 1) [] := by kernel_rfl
theorem kg_m1_5 : Mi.law_kind_own [.d vY, .d vQ, .d (.int (-1)), .d (.int 5)] = .ok (.int 5) [] := by kernel_rfl
theorem kg_m1_6 : Mi.law_kind_own [.d vY, .d vQ, .d (.int (-1)), .d (.int 6)] = .ok (.int 8) [] := by kernel_rfl
theorem kg_m1_7 : Mi.law_kind_own [.d vY, .d vQ, .d (.int (-1)), .d (.int 7)] = .ok (.int 1) [] := by kernel_rfl
theorem kg_0_0 : Mi.law_kind_own [.d vY, .d vQ, .d (.int 0), .d (.int 0)] = .ok (.int 8) [] := by kernel_rfl
theorem kg_0_1 : Mi.law_kind_own [.d vY, .d vQ, .d (.int 0), .d (.int 1)] = .ok (.int 8) [] := by kernel_rfl
theorem kg_0_2 : Mi.law_kind_own [.d vY, .d vQ, .d (.int 0), .d (.int 2)] = .ok (.int 4) [] := by kernel_rfl
theorem kg_0_3 : Mi.law_kind_own [.d vY, .d vQ, .d (.int 0), .d (.int 3)] = .ok (.int 8) [] := by kernel_rfl
theorem kg_0_4 : Mi.law_kind_own [.d vY, .d vQ, .d (.int 0), .d (.int 4)] = .ok (.int 2) [] := by kernel_rfl
theorem kg_0_5 : Mi.law_kind_own [.d vY, .d vQ, .d (.int 0), .d (.int 5)] = .ok (.int 5) [] := by kernel_rfl
theorem kg_0_6 : Mi.law_kind_own [.d vY, .d vQ, .d (.int 0), .d (.int 6)] = .ok (.int 8) [] := by kernel_rfl
theorem kg_0_7 : Mi.law_kind_own [.d vY, .d vQ, .d (.int 0), .d (.int 7)] = .ok (.int 8) [] := by kernel_rfl
theorem kg_1_0 : Mi.law_kind_own [.d vY, .d vQ, .d (.int 1), .d (.int 0)] = .ok (.int 8) [] := by kernel_rfl
theorem kg_1_1 : Mi.law_kind_own [.d vY, .d vQ, .d (.int 1), .d (.int 1)] = .ok (.int 8) [] := by kernel_rfl
theorem kg_1_2 : Mi.law_kind_own [.d vY, .d vQ, .d (.int 1), .d (.int 2)] = .ok (.int 4) [] := by kernel_rfl
theorem kg_1_3 : Mi.law_kind_own [.d vY, .d vQ, .d (.int 1), .d (.int 3)] = .ok (.int 8) [] := by kernel_rfl
theorem kg_1_4 : Mi.law_kind_own [.d vY, .d vQ, .d (.int 1), .d (.int 4)] = .ok (.int 2) [] := by kernel_rfl
theorem kg_1_5 : Mi.law_kind_own [.d vY, .d vQ, .d (.int 1), .d (.int 5)] = .ok (.int 5) [] := by kernel_rfl
theorem kg_1_6 : Mi.law_kind_own [.d vY, .d vQ, .d (.int 1), .d (.int 6)] = .ok (.int 8) [] := by kernel_rfl
theorem kg_1_7 : Mi.law_kind_own [.d vY, .d vQ, .d (.int 1), .d (.int 7)] = .ok (.int 8) [] := by kernel_rfl
def env5 (s c : D) (x y z : Sl) : DL.Env := [.d s, .d vK, .d vY, .d vG, .d vB, .d c, x, y, z]
def exB : Nat → Int
  | 6 => 2
  | _ => 0
theorem kb_all (b w : Nat) (hb : b < 5) (hw : w < 8) (s : Int) (hs : s = 0 ∨ s = 2) : ∃ B, ixX vB (.int (b : Int)) = some B ∧ Mi.law_kind_own [.d vY, .d B, .d (.int s), .d (.int (w : Int))] = .ok (.int (exB w)) [] := by
  rcases hs with rfl | rfl
  · match b, w, hb, hw with
    | 0, 0, _, _ => exact ⟨vB0, rfl, kb_0_0_0⟩
    | 0, 1, _, _ => exact ⟨vB0, rfl, kb_0_0_1⟩
    | 0, 2, _, _ => exact ⟨vB0, rfl, kb_0_0_2⟩
    | 0, 3, _, _ => exact ⟨vB0, rfl, kb_0_0_3⟩
    | 0, 4, _, _ => exact ⟨vB0, rfl, kb_0_0_4⟩
    | 0, 5, _, _ => exact ⟨vB0, rfl, kb_0_0_5⟩
    | 0, 6, _, _ => exact ⟨vB0, rfl, kb_0_0_6⟩
    | 0, 7, _, _ => exact ⟨vB0, rfl, kb_0_0_7⟩
    | 1, 0, _, _ => exact ⟨vB1, rfl, kb_1_0_0⟩
    | 1, 1, _, _ => exact ⟨vB1, rfl, kb_1_0_1⟩
    | 1, 2, _, _ => exact ⟨vB1, rfl, kb_1_0_2⟩
    | 1, 3, _, _ => exact ⟨vB1, rfl, kb_1_0_3⟩
    | 1, 4, _, _ => exact ⟨vB1, rfl, kb_1_0_4⟩
    | 1, 5, _, _ => exact ⟨vB1, rfl, kb_1_0_5⟩
    | 1, 6, _, _ => exact ⟨vB1, rfl, kb_1_0_6⟩
    | 1, 7, _, _ => exact ⟨vB1, rfl, kb_1_0_7⟩
    | 2, 0, _, _ => exact ⟨vB2, rfl, kb_2_0_0⟩
    | 2, 1, _, _ => exact ⟨vB2, rfl, kb_2_0_1⟩
    | 2, 2, _, _ => exact ⟨vB2, rfl, kb_2_0_2⟩
    | 2, 3, _, _ => exact ⟨vB2, rfl, kb_2_0_3⟩
    | 2, 4, _, _ => exact ⟨vB2, rfl, kb_2_0_4⟩
    | 2, 5, _, _ => exact ⟨vB2, rfl, kb_2_0_5⟩
    | 2, 6, _, _ => exact ⟨vB2, rfl, kb_2_0_6⟩
    | 2, 7, _, _ => exact ⟨vB2, rfl, kb_2_0_7⟩
    | 3, 0, _, _ => exact ⟨vB3, rfl, kb_3_0_0⟩
    | 3, 1, _, _ => exact ⟨vB3, rfl, kb_3_0_1⟩
    | 3, 2, _, _ => exact ⟨vB3, rfl, kb_3_0_2⟩
    | 3, 3, _, _ => exact ⟨vB3, rfl, kb_3_0_3⟩
    | 3, 4, _, _ => exact ⟨vB3, rfl, kb_3_0_4⟩
    | 3, 5, _, _ => exact ⟨vB3, rfl, kb_3_0_5⟩
    | 3, 6, _, _ => exact ⟨vB3, rfl, kb_3_0_6⟩
    | 3, 7, _, _ => exact ⟨vB3, rfl, kb_3_0_7⟩
    | 4, 0, _, _ => exact ⟨vB4, rfl, kb_4_0_0⟩
    | 4, 1, _, _ => exact ⟨vB4, rfl, kb_4_0_1⟩
    | 4, 2, _, _ => exact ⟨vB4, rfl, kb_4_0_2⟩
    | 4, 3, _, _ => exact ⟨vB4, rfl, kb_4_0_3⟩
    | 4, 4, _, _ => exact ⟨vB4, rfl, kb_4_0_4⟩
    | 4, 5, _, _ => exact ⟨vB4, rfl, kb_4_0_5⟩
    | 4, 6, _, _ => exact ⟨vB4, rfl, kb_4_0_6⟩
    | 4, 7, _, _ => exact ⟨vB4, rfl, kb_4_0_7⟩
    | b + 5, _, h, _ => exact absurd h (by omega)
    | 0, w + 8, _, h => exact absurd h (by omega)
    | 1, w + 8, _, h => exact absurd h (by omega)
    | 2, w + 8, _, h => exact absurd h (by omega)
    | 3, w + 8, _, h => exact absurd h (by omega)
    | 4, w + 8, _, h => exact absurd h (by omega)
  · match b, w, hb, hw with
    | 0, 0, _, _ => exact ⟨vB0, rfl, kb_0_2_0⟩
    | 0, 1, _, _ => exact ⟨vB0, rfl, kb_0_2_1⟩
    | 0, 2, _, _ => exact ⟨vB0, rfl, kb_0_2_2⟩
    | 0, 3, _, _ => exact ⟨vB0, rfl, kb_0_2_3⟩
    | 0, 4, _, _ => exact ⟨vB0, rfl, kb_0_2_4⟩
    | 0, 5, _, _ => exact ⟨vB0, rfl, kb_0_2_5⟩
    | 0, 6, _, _ => exact ⟨vB0, rfl, kb_0_2_6⟩
    | 0, 7, _, _ => exact ⟨vB0, rfl, kb_0_2_7⟩
    | 1, 0, _, _ => exact ⟨vB1, rfl, kb_1_2_0⟩
    | 1, 1, _, _ => exact ⟨vB1, rfl, kb_1_2_1⟩
    | 1, 2, _, _ => exact ⟨vB1, rfl, kb_1_2_2⟩
    | 1, 3, _, _ => exact ⟨vB1, rfl, kb_1_2_3⟩
    | 1, 4, _, _ => exact ⟨vB1, rfl, kb_1_2_4⟩
    | 1, 5, _, _ => exact ⟨vB1, rfl, kb_1_2_5⟩
    | 1, 6, _, _ => exact ⟨vB1, rfl, kb_1_2_6⟩
    | 1, 7, _, _ => exact ⟨vB1, rfl, kb_1_2_7⟩
    | 2, 0, _, _ => exact ⟨vB2, rfl, kb_2_2_0⟩
    | 2, 1, _, _ => exact ⟨vB2, rfl, kb_2_2_1⟩
    | 2, 2, _, _ => exact ⟨vB2, rfl, kb_2_2_2⟩
    | 2, 3, _, _ => exact ⟨vB2, rfl, kb_2_2_3⟩
    | 2, 4, _, _ => exact ⟨vB2, rfl, kb_2_2_4⟩
    | 2, 5, _, _ => exact ⟨vB2, rfl, kb_2_2_5⟩
    | 2, 6, _, _ => exact ⟨vB2, rfl, kb_2_2_6⟩
    | 2, 7, _, _ => exact ⟨vB2, rfl, kb_2_2_7⟩
    | 3, 0, _, _ => exact ⟨vB3, rfl, kb_3_2_0⟩
    | 3, 1, _, _ => exact ⟨vB3, rfl, kb_3_2_1⟩
    | 3, 2, _, _ => exact ⟨vB3, rfl, kb_3_2_2⟩
    | 3, 3, _, _ => exact ⟨vB3, rfl, kb_3_2_3⟩
    | 3, 4, _, _ => exact ⟨vB3, rfl, kb_3_2_4⟩
    | 3, 5, _, _ => exact ⟨vB3, rfl, kb_3_2_5⟩
    | 3, 6, _, _ => exact ⟨vB3, rfl, kb_3_2_6⟩
    | 3, 7, _, _ => exact ⟨vB3, rfl, kb_3_2_7⟩
    | 4, 0, _, _ => exact ⟨vB4, rfl, kb_4_2_0⟩
    | 4, 1, _, _ => exact ⟨vB4, rfl, kb_4_2_1⟩
    | 4, 2, _, _ => exact ⟨vB4, rfl, kb_4_2_2⟩
    | 4, 3, _, _ => exact ⟨vB4, rfl, kb_4_2_3⟩
    | 4, 4, _, _ => exact ⟨vB4, rfl, kb_4_2_4⟩
    | 4, 5, _, _ => exact ⟨vB4, rfl, kb_4_2_5⟩
    | 4, 6, _, _ => exact ⟨vB4, rfl, kb_4_2_6⟩
    | 4, 7, _, _ => exact ⟨vB4, rfl, kb_4_2_7⟩
    | b + 5, _, h, _ => exact absurd h (by omega)
    | 0, w + 8, _, h => exact absurd h (by omega)
    | 1, w + 8, _, h => exact absurd h (by omega)
    | 2, w + 8, _, h => exact absurd h (by omega)
    | 3, w + 8, _, h => exact absurd h (by omega)
    | 4, w + 8, _, h => exact absurd h (by omega)
def exG1 : Nat → Int
  | 0 => 8
  | 1 => 8
  | 2 => 4
  | 3 => 1
  | 4 => 1
  | 5 => 5
  | 6 => 8
  | _ => 1
def exG2 : Nat → Int
  | 0 => 8
  | 1 => 8
  | 2 => 4
  | 3 => 8
  | 4 => 2
  | 5 => 5
  | 6 => 8
  | _ => 8
theorem kg1_all (w : Nat) (hw : w < 8) (s : Int) (hs : s = 2 ∨ s = -1) : Mi.law_kind_own [.d vY, .d vQ, .d (.int s), .d (.int (w : Int))] = .ok (.int (exG1 w)) [] := by
  rcases hs with rfl | rfl
  · match w, hw with
    | 0, _ => exact kg_2_0
    | 1, _ => exact kg_2_1
    | 2, _ => exact kg_2_2
    | 3, _ => exact kg_2_3
    | 4, _ => exact kg_2_4
    | 5, _ => exact kg_2_5
    | 6, _ => exact kg_2_6
    | 7, _ => exact kg_2_7
    | w + 8, h => exact absurd h (by omega)
  · match w, hw with
    | 0, _ => exact kg_m1_0
    | 1, _ => exact kg_m1_1
    | 2, _ => exact kg_m1_2
    | 3, _ => exact kg_m1_3
    | 4, _ => exact kg_m1_4
    | 5, _ => exact kg_m1_5
    | 6, _ => exact kg_m1_6
    | 7, _ => exact kg_m1_7
    | w + 8, h => exact absurd h (by omega)
theorem kg2_all (w : Nat) (hw : w < 8) (s : Int) (hs : s = 0 ∨ s = 1) : Mi.law_kind_own [.d vY, .d vQ, .d (.int s), .d (.int (w : Int))] = .ok (.int (exG2 w)) [] := by
  rcases hs with rfl | rfl
  · match w, hw with
    | 0, _ => exact kg_0_0
    | 1, _ => exact kg_0_1
    | 2, _ => exact kg_0_2
    | 3, _ => exact kg_0_3
    | 4, _ => exact kg_0_4
    | 5, _ => exact kg_0_5
    | 6, _ => exact kg_0_6
    | 7, _ => exact kg_0_7
    | w + 8, h => exact absurd h (by omega)
  · match w, hw with
    | 0, _ => exact kg_1_0
    | 1, _ => exact kg_1_1
    | 2, _ => exact kg_1_2
    | 3, _ => exact kg_1_3
    | 4, _ => exact kg_1_4
    | 5, _ => exact kg_1_5
    | 6, _ => exact kg_1_6
    | 7, _ => exact kg_1_7
    | w + 8, h => exact absurd h (by omega)
theorem exB_at (w : Nat) (hw : w < 8) : ixX (.lst [.int 0, .int 0, .int 0, .int 0, .int 0, .int 0, .int 2, .int 0]) (.int (w : Int)) = some (.int (exB w)) := by
  match w, hw with
  | 0, _ => rfl
  | 1, _ => rfl
  | 2, _ => rfl
  | 3, _ => rfl
  | 4, _ => rfl
  | 5, _ => rfl
  | 6, _ => rfl
  | 7, _ => rfl
  | w + 8, h => exact absurd h (by omega)
theorem exG1_at (w : Nat) (hw : w < 8) : ixX (.lst [.int 8, .int 8, .int 4, .int 1, .int 1, .int 5, .int 8, .int 1]) (.int (w : Int)) = some (.int (exG1 w)) := by
  match w, hw with
  | 0, _ => rfl
  | 1, _ => rfl
  | 2, _ => rfl
  | 3, _ => rfl
  | 4, _ => rfl
  | 5, _ => rfl
  | 6, _ => rfl
  | 7, _ => rfl
  | w + 8, h => exact absurd h (by omega)
theorem exG2_at (w : Nat) (hw : w < 8) : ixX (.lst [.int 8, .int 8, .int 4, .int 8, .int 2, .int 5, .int 8, .int 8]) (.int (w : Int)) = some (.int (exG2 w)) := by
  match w, hw with
  | 0, _ => rfl
  | 1, _ => rfl
  | 2, _ => rfl
  | 3, _ => rfl
  | 4, _ => rfl
  | 5, _ => rfl
  | 6, _ => rfl
  | 7, _ => rfl
  | w + 8, h => exact absurd h (by omega)
theorem rh0 : Mi.ranks_hold [.d vY, .d (.dic [] [])] = .ok (.bl true) [] := by kernel_rfl
theorem sh0 : Mi.stay_holds [.d vY, .d vQ, .d (.int 0), .d (.lst [])] = .ok (.bl false) [] := by kernel_rfl
theorem sh1 : Mi.stay_holds [.d vY, .d vQ, .d (.int 1), .d (.lst [])] = .ok (.bl false) [] := by kernel_rfl
theorem cell0_ap (ns : List Int) : ∃ c : Int, Mi.law_cell_at [.d (.lst (ns.map D.int)), .d (.int 0)] = .ok (.int c) [] := by
  unfold Mi.law_cell_at
  cases ns with
  | nil => exact ⟨0, by simp⟩
  | cons n ns =>
    refine ⟨n, ?_⟩
    have h : (0 : Int) < (ns.length : Int) + 1 := by omega
    have e := ixX_lst ((n :: ns).map D.int) 0 (.int n) (by rw [show (0 : Int) = ((0 : Nat) : Int) from rfl, atI_nat]; rfl)
    have e : ixX (.lst (D.int n :: ns.map D.int)) (.int 0) = some (.int n) := e
    simp [h, e]
theorem law_math (ns : List Int) (hl : ns.length ≤ 63) : Mi.law [.d (.lst (ns.map D.int))] = .ok (.bl true) [] := by
  obtain ⟨c, ca⟩ := cell0_ap ns
  generalize D.lst (ns.map D.int) = SD at *
  have md2 := modD_int c 2 (by omega)
  have m01 : c % 2 = 0 ∨ c % 2 = 1 := by omega
  have key : Fp (Mi.law [.d SD]) (fun d os => d = .bl true ∧ os = []) (fun _ _ => False) := by
    rw [lw_eq, Fp_fnM]
    show Wp _ [.d SD, .no, .no, .no, .no, .no, .no, .no, .no] _ _
    rw [Wp_seqM, Wp_of (s01 SD)]
    dsimp only
    rw [Wp_seqM, Wp_of (s12 SD)]
    dsimp only
    rw [Wp_seqM, Wp_of (s23 SD)]
    dsimp only
    rw [Wp_seqM, Wp_of (s34 SD)]
    dsimp only
    refine Wp_cut (fun ρ' => ρ' = env5 SD (.int c) .no .no .no) (fun M hM => by
      have hM := hM _ rfl
      unfold lw4
      unfold env5 at hM
      generalize vK = K at *
      generalize vY = Y at *
      generalize vG = G at *
      generalize vB = B at *
      simp [ca]
      exact hM) ?_
    rintro _ rfl
    refine Wp_cut (fun ρ' => ∃ x y, ρ' = env5 SD (.int c) x y .no) (fun M hM => ?_) ?_
    · have it : Wp (rg1M (consM (pureM (.int 40)) (pureM []))) (env5 SD (.int c) .no .no .no) = fun QL X => QL ((List.range 40).map fun (i : Nat) => D.int (i : Int)) (env5 SD (.int c) .no .no .no) := by
        funext QL X
        have rg : rg1 [.int 40] = some ((List.range 40).map fun (i : Nat) => D.int (i : Int)) := rg1_nat' 40 (by omega)
        unfold env5
        generalize (List.range 40).map (fun (i : Nat) => D.int (i : Int)) = RR at *
        generalize vK = K at *
        generalize vY = Y at *
        generalize vG = G at *
        generalize vB = B at *
        simp [rg]
      unfold lw5
      rw [Wp_forD, it]
      refine Wp_forR (fun k ρ => ∃ x y, ρ = env5 SD (.int c) x y .no) 40 ⟨_, _, rfl⟩ ?_ ?_
      · rintro k _ hk ⟨x, y, rfl⟩ M2 hM2
        refine ⟨env5 SD (.int c) (.d (.int (k : Int))) y .no, rfl, ?_⟩
        obtain ⟨z, hz, ez⟩ : ∃ z : Nat, z < 40 ∧ (c + (k : Int)) % 40 = (z : Int) := ⟨((c + (k : Int)) % 40).toNat, by omega, by omega⟩
        have md := modD_int (c + (k : Int)) 40 (by omega)
        rw [ez] at md
        have ad : addD (.int c) (.int (k : Int)) = some (.int (c + (k : Int))) := rfl
        unfold lw5_b
        refine Wp_cut (fun ρ' => ρ' = env5 SD (.int c) (.d (.int (k : Int))) (.d (.int (z : Int))) .no) (fun M3 hM3 => by
          have hM3 := hM3 _ rfl
          unfold lw5_b_0
          unfold env5 at *
          generalize vK = K at *
          generalize vY = Y at *
          generalize vG = G at *
          generalize vB = B at *
          generalize c + (k : Int) = ck at *
          generalize (k : Int) = ki at *
          generalize (z : Int) = zi at *
          simp [-modD_int, -addD_int, ad, md]
          exact hM3) ?_
        rintro _ rfl
        have hM2 := hM2 _ ⟨.d (.int (k : Int)), .d (.int (z : Int)), rfl⟩
        have dv := divD_int (z : Int) 8 (by omega) (by omega)
        have md8 := modD_int (z : Int) 8 (by omega)
        rw [show (z : Int) / 8 = ((z / 8 : Nat) : Int) by omega] at dv
        rw [show (z : Int) % 8 = ((z % 8 : Nat) : Int) by omega] at md8
        obtain ⟨s, hs, es⟩ : ∃ s : Int, (s = 0 ∨ s = 2) ∧ ixX (.lst [.int 0, .int 2]) (.int (c % 2)) = some (.int s) := by
          rcases m01 with h | h <;> rw [h]
          · exact ⟨0, .inl rfl, rfl⟩
          · exact ⟨2, .inr rfl, rfl⟩
        obtain ⟨Bz, eb, kb⟩ := kb_all (z / 8) (z % 8) (by omega) (by omega) s hs
        have xb := exB_at (z % 8) (by omega)
        have ne := neD_int (exB (z % 8)) (exB (z % 8))
        have ne : neD (.int (exB (z % 8))) (.int (exB (z % 8))) = some (.bl false) := by rw [ne]; simp
        unfold lw5_b_1
        unfold env5 at *
        generalize exB (z % 8) = ee at *
        generalize ((z / 8 : Nat) : Int) = zd at *
        generalize ((z % 8 : Nat) : Int) = zm at *
        generalize (z : Int) = zi at *
        generalize (k : Int) = ki at *
        generalize c % 2 = c2 at *
        generalize vK = K at *
        generalize vY = Y at *
        generalize vG = G at *
        generalize vB = B at *
        simp [-modD_int, -divD_int, -neD_int, dv, md8, md2, es, eb, kb, xb, ne, sizeLine_eq]
        exact hM2
      · rintro _ ⟨x, y, rfl⟩
        exact ⟨rfl, hM _ ⟨x, y, rfl⟩⟩
    rintro _ ⟨x, y, rfl⟩
    refine Wp_cut (fun ρ' => ∃ z, ρ' = env5 SD (.int c) x y z) (fun M hM => ?_) ?_
    · have it : Wp (rg1M (consM (pureM (.int 8)) (pureM []))) (env5 SD (.int c) x y .no) = fun QL X => QL ((List.range 8).map fun (i : Nat) => D.int (i : Int)) (env5 SD (.int c) x y .no) := by
        funext QL X
        have rg : rg1 [.int 8] = some ((List.range 8).map fun (i : Nat) => D.int (i : Int)) := rg1_nat' 8 (by omega)
        unfold env5
        generalize (List.range 8).map (fun (i : Nat) => D.int (i : Int)) = RR at *
        generalize vK = K at *
        generalize vY = Y at *
        generalize vG = G at *
        generalize vB = B at *
        simp [rg]
      unfold lw6
      rw [Wp_forD, it]
      refine Wp_forR (fun k ρ => ∃ z, ρ = env5 SD (.int c) x y z) 8 ⟨_, rfl⟩ ?_ ?_
      · rintro k _ hk ⟨z, rfl⟩ M2 hM2
        refine ⟨env5 SD (.int c) x y (.d (.int (k : Int))), rfl, ?_⟩
        have hM2 := hM2 _ ⟨.d (.int (k : Int)), rfl⟩
        obtain ⟨s, hs, es⟩ : ∃ s : Int, (s = 2 ∨ s = -1) ∧ ixX (.lst [.int 2, .int (-1)]) (.int (c % 2)) = some (.int s) := by
          rcases m01 with h | h <;> rw [h]
          · exact ⟨2, .inl rfl, rfl⟩
          · exact ⟨-1, .inr rfl, rfl⟩
        have k1 := kg1_all k hk s hs
        have k2 := kg2_all k hk (c % 2) m01
        have x1 := exG1_at k hk
        have x2 := exG2_at k hk
        have n1 : neD (.int (exG1 k)) (.int (exG1 k)) = some (.bl false) := by rw [neD_int]; simp
        have n2 : neD (.int (exG2 k)) (.int (exG2 k)) = some (.bl false) := by rw [neD_int]; simp
        have eq : D.tup [.int 0, vG] = vQ := rfl
        unfold lw6_b lw6_b_0 lw6_b_1
        unfold env5 at *
        generalize exG1 k = g1 at *
        generalize exG2 k = g2 at *
        generalize (k : Int) = ki at *
        generalize c % 2 = c2 at *
        generalize vK = K at *
        generalize vY = Y at *
        generalize vG = G at *
        generalize vQ = Q at *
        generalize vB = B at *
        simp [-modD_int, -neD_int, md2, es, eq, k1, k2, x1, x2, n1, n2, sizeLine_eq]
        exact hM2
      · rintro _ ⟨z, rfl⟩
        exact ⟨rfl, hM _ ⟨z, rfl⟩⟩
    rintro _ ⟨z, rfl⟩
    have sh : Mi.stay_holds [.d vY, .d vQ, .d (.int (c % 2)), .d (.lst [])] = .ok (.bl false) [] := by
      rcases m01 with h | h <;> rw [h]
      · exact sh0
      · exact sh1
    have rh := rh0
    have eq : D.tup [.int 0, vG] = vQ := rfl
    have i1 : isBD (.bl true) (.bl true) = some (.bl true) := rfl
    have i2 : isBD (.bl false) (.bl false) = some (.bl true) := rfl
    have oc : ocD (.k [] []) = .dic [] [] := rfl
    unfold lw7 env5
    generalize c % 2 = c2 at *
    generalize vK = K at *
    generalize vY = Y at *
    generalize vG = G at *
    generalize vQ = Q at *
    generalize vB = B at *
    simp [-modD_int, oc, rh, i1, eq, md2, sh, i2, sizeLine_eq]
  obtain ⟨_, _, e, rfl, rfl⟩ := Fp_ok' key
  exact e
end DL
end
namespace DL
open PySem PySem.Spec L2
open PyProof.Rows hiding St
end DL
open PySem PySem.W PySem.Calls PyProof.Rows
theorem PySem.Challenge.cw_pieceyard_k45_refusals_of_papers_holds : PySem.Challenge.rw_pieceyard_k45_refusals_of_papers.Holds := by
  w_on; o_law
  refine HandSHeadRun.head_any (r := OpenLaw.row PySem.Challenge.rw_pieceyard_k45_refusals_of_papers) (q := view (OpenLaw.row PySem.Challenge.rw_pieceyard_k45_refusals_of_papers).prog [60]) (H := DL.hkk) (ob := DL.obb) (M := 8000) (loose := DL.loose) (d := HandSHeadRun.topDef (OpenLaw.row PySem.Challenge.rw_pieceyard_k45_refusals_of_papers).prog 60) (kwd := []) DL.obb_eq
    (by kernel_rfl) (fun s => by kernel_rfl) DL.run (by kernel_rfl) (by kernel_rfl) (by kernel_rfl) (by rfl) (by first | assumption | decide +kernel) (by decide +kernel) ⟨rfl, rfl, rfl, rfl, rfl, by decide +kernel⟩ ?hw ?hc
  case hw => w_witness2
  case hc =>
    refine DL.walk_ofX (l := PySem.Challenge.rw_pieceyard_k45_refusals_of_papers) (n := 63) (k := 14) (x := "script") (CX := fun w => L2.CX (PySem.Challenge.rw_pieceyard_k45_refusals_of_papers).prog w) rfl (by decide) (by kernel_rfl) ⟨rfl, by decide, by decide⟩ ?F (fun _ _ _ _ _ z => DL.cx_none z)
    intro w mg fa h Y G hmg0
    obtain ⟨K, KX, c, xt⟩ := Y
    have hmg : mg ("law" : PySem.Str) = some (.ref fa) := by
      have e : (HandSHeadRun.topDef (OpenLaw.row PySem.Challenge.rw_pieceyard_k45_refusals_of_papers).prog 60).name = ("law" : PySem.Str) := by kernel_rfl
      rw [← e]
      exact hmg0
    obtain ⟨fd, D, hs, hF⟩ := DL.law_ok (P := (PySem.Challenge.rw_pieceyard_k45_refusals_of_papers).prog) (w := w) KX G c xt
    have ea : fa = He.ga K "law" := by
      have z := D.1
      rw [hmg] at z
      exact PySem.Value.ref.inj (Option.some.inj z)
    subst ea
    exact ⟨K, fd, DL.spD ⟨K, mg, w⟩ none [false] .f DL.Mi.law, KX, fun s v => (D.2.bindsA (ps := ["script"]) DL.bi_law s [v] rfl), fun H a ns hl hO hS => DL.law_sp hs hO hS (DL.law_math ns hl), fun base _ _ => hF base⟩
