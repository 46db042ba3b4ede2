import PyProof.Rows.All
import HandS.TupSets
import KE.KeyNested
import KE.KDictKeyed
import Wide.All
import OpenK.AllK
import Wide.FinOn
import PyProof.EqAt
import PyProof.EqKinds
import PyProof.TupleCall
import HandS.ForMost
import HandS.Exc
import HandS.TryOnly
import HandS.ExcOwn
import HandS.Defaults
import HandS.Head0
import HandS.Head1
import HandS.Head2
import HandS.HeadEnd
import HandS.HeadHook1
import HandS.HeadHook2
import HandS.IsInst
import HandS.TupAny
import HandS.HotCalls
import HandS.ExcIs
import HandS.More
import KE.DataCmp
import HandS.Deep
import KE.SortCalls
import HandS.Iter
import HandS.Style
import HandS.Small
import KE.DataMinMax
import HandS.Conv
import KE.KIntText
import KE.KDictSum
import KE.KDictCopyH
import KE.KDictDisplayH
import HandS.List
import HandS.SortKw
import HandS.Zip
import HandS.Walk
import PySem.Challenge.RW_pieceyard_k17_names_borne
set_option Elab.async false
set_option linter.all false
set_option maxRecDepth 100000
set_option maxHeartbeats 0
section
/-! the data layer: values as pure data, a def as a plain function of data -/
namespace DL
open PySem PySem.Spec L2
open PyProof.Rows hiding St

/-- pure data -/
inductive D where
  | non | bl (b : Bool) | int (i : Int) | str (s : Str)
  | lst (xs : List D) | tup (xs : List D)
  | dic (ks vs : List D) | ins (c : Str) (ns : List Str) (fs : List D)
  deriving Inhabited

/-- a slot: empty, data, a list that the def owns, the handled exception -/
inductive OC where
  | l (xs : List D) | k (ks vs : List D)
  deriving Inhabited
inductive Sl where
  | no | d (x : D) | cell (c : OC) | exn (c : Str)
  deriving Inhabited
/-- .. the def's own list, dict -/
abbrev Sl.own (xs : List D) : Sl := .cell (.l xs)
abbrev Env := List Sl
inductive Res (α : Type) where
  | ok (a : α) (ρ : Env) | exc (c : Str) (ρ : Env) | stuck
abbrev M (α : Type) := Env → Res α
inductive Flow where
  | nx | ret (d : D) | brk | ct
abbrev MS := M Flow

/-- what never changes -/
def Fixed : HO → Prop
  | .tup _ => True
  | .frz _ _ => True
  | .ins _ _ _ => True
  | _ => False
def Stable (H H' : Hp) : Prop := ∀ a o, H a = some o → Fixed o → H' a = some o
theorem Stable.rfl {H : Hp} : Stable H H := fun _ _ h _ => h
theorem Stable.trans {H1 H2 H3 : Hp} (a : Stable H1 H2) (b : Stable H2 H3) : Stable H1 H3 := fun x o h f => b x o (a x o h f) f
def Grow (H H' : Hp) : Prop := ∀ a o, H a = some o → H' a = some o
theorem Grow.rfl {H : Hp} : Grow H H := fun _ _ h => h
theorem Grow.stable {H H' : Hp} (g : Grow H H') : Stable H H' := fun a o h _ => g a o h
theorem Grow.trans {H1 H2 H3 : Hp} (a : Grow H1 H2) (b : Grow H2 H3) : Grow H1 H3 := fun x o h => b x o (a x o h)
theorem Grow.new {H : Hp} {p : Addr} {o : HO} (hp : H p = none) : Grow H (upd H p o) := fun a u h => by
  rw [upd_ne (ne_of_none h hp)]; exact h

/-- the module: the written part, the names -/
structure Md where
  K : PySem.W.Frag
  mg : Str → Option Value
  w : World
/-- the ghost context: the module, the heap at the entry, the by-reference parameters -/
structure Gh where
  m : Md
  H0 : Hp
  pr : List (Nat × Addr)
  ex : Option (Addr × Str) := none

def SqF (K : PySem.W.Frag) (H : Hp) (a : Addr) (xs : List V) : Prop :=
  (∃ o, H a = some (.frz o (.lst xs))) ∨ ∃ (its : Array Value) (n : Nat), K.lookup a = some { cls := .type "list", data := .seq its n } ∧ its.size ≤ sizeLine ∧ Vals xs its.toList
theorem SqF.sq {K : PySem.W.Frag} {H : Hp} {a : Addr} {xs : List V} (h : SqF K H a xs) : SqL K H a xs := by
  rcases h with ⟨o, h⟩ | ⟨its, n, h1, h2, h3⟩
  · exact .inl (.inr ⟨o, h⟩)
  · exact .inr ⟨_, its, n, h1, rfl, rfl, rfl, h2, h3⟩
theorem SqF.st {K : PySem.W.Frag} {H H' : Hp} {a : Addr} {xs : List V} (s : Stable H H') (h : SqF K H a xs) : SqF K H' a xs := by
  rcases h with ⟨o, h⟩ | h
  · exact .inl ⟨o, s _ _ h trivial⟩
  · exact .inr h
theorem SqT_st {K : PySem.W.Frag} {H H' : Hp} {a : Addr} {xs : List V} (s : Stable H H') (h : SqT K H a xs) : SqT K H' a xs := by
  rcases h with (h | ⟨o, h⟩) | h
  · exact .inl (.inl (s _ _ h trivial))
  · exact .inl (.inr ⟨o, s _ _ h trivial⟩)
  · exact .inr h
/-- a dict with nested keys, at a: keys, where they stand, values -/
abbrev NEnt := NestedKey × Addr × V
def entN (w : World) (k : NestedKey) (a : Addr) (v : Value) : DictEntry := { hash := NestedKey.hash w k, key := .ref a, val := v }
def NdH (w : World) (a : Addr) (kvs : List NEnt) (h : Heap) : Prop := kvs.length ≤ sizeLine ∧ (a == sysModules) = false ∧ ∃ us : List Value, Vals (kvs.map (·.2.2)) us ∧ ∃ o es ep, h.get? a = some o ∧ o.ExactDict ∧ o.data = .dict es ep ∧ es.toList = (kvs.zip us).map (fun p => entN w p.1.1 p.1.2.1 p.2) ∧ (kvs.map (·.1)).Nodup
def NdO (w : World) (a : Addr) (kvs : List NEnt) : HO := .ext (NdH w a kvs)
mutual
def nkD : NestedKey → D
  | .none => .non
  | .num i => .int i
  | .text x => .str x
  | .tup ks => .tup (nkDs ks)
def nkDs : List NestedKey → List D
  | [] => []
  | k :: ks => nkD k :: nkDs ks
end
/-- a flat key -/
def isK : D → Bool
  | .int _ => true
  | .str _ => true
  | _ => false
def keyD : Key → D
  | .inl i => .int i
  | .inr x => .str x

mutual
inductive Rep (m : Md) (H : Hp) : V → D → Prop
  | non : Rep m H .non .non
  | bl (b : Bool) : Rep m H (.bl b) (.bl b)
  | int (i : Int) : Rep m H (.int i) (.int i)
  | str (x : Str) : Rep m H (.str x) (.str x)
  | lst {a : Addr} {vs : List V} {ds : List D} : SqF m.K H a vs → RepL m H vs ds → Rep m H (.ref a) (.lst ds)
  | tup {a : Addr} {vs : List V} {ds : List D} : SqT m.K H a vs → RepL m H vs ds → Rep m H (.ref a) (.tup ds)
  | ins {a C dx : Addr} {c : Str} {ns : List Str} {vs : List V} {ds : List D} : m.mg c = some (.ref C) → H a = some (.ins C dx (ns.zip vs)) → ns.length = vs.length → RepL m H vs ds → Rep m H (.ref a) (.ins c ns ds)
  | dicK {a : Addr} {o : Obj} {kvs : List (Key × V)} {ds : List D} : H a = some (.frz o (.dK kvs)) → RepL m H (kvs.map (·.2)) ds → Rep m H (.ref a) (.dic (kvs.map fun p => keyD p.1) ds)
  | dicN {a : Addr} {o : Obj} {kvs : List NEnt} {ks ds : List D} : H a = some (.frz o (NdO m.w a kvs)) → kvs ≠ [] → ks = kvs.map (fun p => nkD p.1) → RepL m H (kvs.map fun p => .ref p.2.1) ks → RepL m H (kvs.map (·.2.2)) ds → Rep m H (.ref a) (.dic ks ds)
inductive RepL (m : Md) (H : Hp) : List V → List D → Prop
  | nil : RepL m H [] []
  | cons {v : V} {vs : List V} {d : D} {ds : List D} : Rep m H v d → RepL m H vs ds → RepL m H (v :: vs) (d :: ds)
end
section
variable {m : Md} {H H' : Hp}
mutual
theorem Rep.st (s : Stable H H') : ∀ {d : D} {v : V}, Rep m H v d → Rep m H' v d
  | .non, _, h => by cases h; exact .non
  | .bl b, _, h => by cases h; exact .bl b
  | .int i, _, h => by cases h; exact .int i
  | .str x, _, h => by cases h; exact .str x
  | .lst ds, _, h => by
    cases h with
    | lst q r => exact .lst (q.st s) (RepL.st s r)
  | .tup ds, _, h => by
    cases h with
    | tup q r => exact .tup (SqT_st s q) (RepL.st s r)
  | .ins c ns ds, _, h => by
    cases h with
    | ins m' q e r => exact .ins m' (s _ _ q trivial) e (RepL.st s r)
  | .dic ks ds, _, h => by
    cases h with
    | dicK q r => exact .dicK (s _ _ q trivial) (RepL.st s r)
    | dicN q n e r1 r2 => exact .dicN (s _ _ q trivial) n e (RepL.st s r1) (RepL.st s r2)
theorem RepL.st (s : Stable H H') : ∀ {ds : List D} {vs : List V}, RepL m H vs ds → RepL m H' vs ds
  | [], _, h => by cases h; exact .nil
  | d :: ds, _, h => by
    cases h with
    | cons a b => exact .cons (Rep.st s a) (RepL.st s b)
end
theorem RepL.len : ∀ {vs : List V} {ds : List D}, RepL m H vs ds → vs.length = ds.length
  | _, [], h => by cases h; rfl
  | _, d :: ds, h => by
    cases h with
    | cons a b => simp [RepL.len b]
theorem RepL.get : ∀ {vs : List V} {ds : List D} {i : Nat} {d : D}, RepL m H vs ds → ds[i]? = some d → ∃ v, vs[i]? = some v ∧ Rep m H v d
  | _, [], i, d, h, e => by simp at e
  | _, x :: ds, 0, d, h, e => by
    cases h with
    | cons a b => simp at e; subst e; exact ⟨_, rfl, a⟩
  | _, x :: ds, i + 1, d, h, e => by
    cases h with
    | cons a b =>
      obtain ⟨v, h1, h2⟩ := RepL.get (i := i) (d := d) b (by simpa using e)
      exact ⟨v, by simpa using h1, h2⟩
theorem RepL.getV : ∀ {vs : List V} {ds : List D} {i : Nat} {v : V}, RepL m H vs ds → vs[i]? = some v → ∃ d, ds[i]? = some d ∧ Rep m H v d
  | _, [], i, v, h, e => by cases h; simp at e
  | _, x :: ds, 0, v, h, e => by
    cases h with
    | cons a b => simp at e; subst e; exact ⟨_, rfl, a⟩
  | _, x :: ds, i + 1, v, h, e => by
    cases h with
    | cons a b =>
      obtain ⟨d, h1, h2⟩ := RepL.getV (i := i) (v := v) b (by simpa using e)
      exact ⟨d, by simpa using h1, h2⟩
theorem RepL.append : ∀ {vs ws : List V} {ds es : List D}, RepL m H vs ds → RepL m H ws es → RepL m H (vs ++ ws) (ds ++ es)
  | _, _, [], _, h, k => by cases h; exact k
  | _, _, x :: ds, _, h, k => by
    cases h with
    | cons a b => exact .cons a (RepL.append b k)
theorem RepL.set {v : V} {d : D} (r : Rep m H v d) : ∀ {vs : List V} {ds : List D} (i : Nat), RepL m H vs ds → RepL m H (vs.set i v) (ds.set i d)
  | _, [], i, h => by cases h; exact .nil
  | _, x :: ds, 0, h => by
    cases h with
    | cons a b => exact .cons r b
  | _, x :: ds, i + 1, h => by
    cases h with
    | cons a b => exact .cons a (RepL.set r i b)
theorem RepL.take : ∀ {vs : List V} {ds : List D} (n : Nat), RepL m H vs ds → RepL m H (vs.take n) (ds.take n)
  | _, _, 0, h => by simp; exact .nil
  | _, [], n + 1, h => by cases h; exact .nil
  | _, x :: ds, n + 1, h => by
    cases h with
    | cons a b => exact .cons a (RepL.take n b)
theorem RepL.drop : ∀ {vs : List V} {ds : List D} (n : Nat), RepL m H vs ds → RepL m H (vs.drop n) (ds.drop n)
  | _, _, 0, h => by simpa using h
  | _, [], n + 1, h => by cases h; exact .nil
  | _, x :: ds, n + 1, h => by
    cases h with
    | cons a b => simpa using RepL.drop n b
theorem RepL.reverse : ∀ {vs : List V} {ds : List D}, RepL m H vs ds → RepL m H vs.reverse ds.reverse
  | _, [], h => by cases h; exact .nil
  | _, x :: ds, h => by
    cases h with
    | cons a b => simp only [List.reverse_cons]; exact RepL.append (RepL.reverse b) (.cons a .nil)
end

/-- keys of a nested dict are no flat ones -/
theorem notK {m : Md} {H : Hp} {kvs : List NEnt} {ks : List D} (r : RepL m H (kvs.map fun p => V.ref p.2.1) ks) (n : kvs ≠ []) (h : ks.all isK = true) : False := by
  cases kvs with
  | nil => exact n rfl
  | cons p l =>
    cases r with
    | cons a b =>
      rw [List.all_cons, Bool.and_eq_true] at h
      cases a <;> simp [isK] at h
/-- the object o at a holds c -/
def RepO (m : Md) (H : Hp) (a : Addr) (o : HO) : OC → Prop
  | .l xs => ∃ vs, o = .lst vs ∧ RepL m H vs xs
  | .k ks ds => (∃ kvs : List (Key × V), o = .dK kvs ∧ ks = kvs.map (fun p => keyD p.1) ∧ RepL m H (kvs.map (·.2)) ds) ∨
    ∃ kvs : List NEnt, o = NdO m.w a kvs ∧ kvs ≠ [] ∧ ks = kvs.map (fun p => nkD p.1) ∧ RepL m H (kvs.map fun p => .ref p.2.1) ks ∧ RepL m H (kvs.map (·.2.2)) ds
theorem RepO.st {m : Md} {H H' : Hp} {a : Addr} {o : HO} (s : Stable H H') : ∀ {c : OC}, RepO m H a o c → RepO m H' a o c
  | .l _, ⟨vs, e, r⟩ => ⟨vs, e, r.st s⟩
  | .k _ _, .inl ⟨kvs, e, e2, r⟩ => .inl ⟨kvs, e, e2, r.st s⟩
  | .k _ _, .inr ⟨kvs, e, n, e2, r1, r2⟩ => .inr ⟨kvs, e, n, e2, r1.st s, r2.st s⟩
theorem RepO.nf {m : Md} {H : Hp} {a : Addr} {o : HO} : ∀ {c : OC}, RepO m H a o c → ¬ Fixed o
  | .l _, ⟨vs, e, r⟩ => by subst e; exact id
  | .k _ _, .inl ⟨kvs, e, _⟩ => by subst e; exact id
  | .k _ _, .inr ⟨kvs, e, _⟩ => by subst e; exact id
theorem RepO.mt {m : Md} {H : Hp} {a : Addr} {o : HO} : ∀ {c : OC}, RepO m H a o c → Mut (some o)
  | .l _, ⟨vs, e, r⟩ => by subst e; trivial
  | .k _ _, .inl ⟨kvs, e, _⟩ => by subst e; trivial
  | .k _ _, .inr ⟨kvs, e, _⟩ => by subst e; trivial
/-! ### the state against the slots -/
structure StOk (G : Gh) (σ : St) (H : Hp) (ρ : Env) : Prop where
  len : σ.length = ρ.length
  dat : ∀ (i : Nat) (x : D), ρ[i]? = some (.d x) → ∃ v, σ[i]? = some (some v) ∧ Rep G.m H v x
  own : ∀ (i : Nat) (xs : OC), ρ[i]? = some (.cell xs) → ∃ a vs, σ[i]? = some (some (.ref a)) ∧ H a = some vs ∧ RepO G.m H a vs xs ∧ ((∀ p ∈ G.pr, p.1 ≠ i) → G.H0 a = none ∧ ∀ p ∈ G.pr, p.2 ≠ a)
  sep : ∀ (i j : Nat) (xs ys : OC) (a : Addr), i ≠ j → ρ[i]? = some (.cell xs) → ρ[j]? = some (.cell ys) → σ[i]? = some (some (.ref a)) → σ[j]? ≠ some (some (.ref a))
  prot : ∀ p ∈ G.pr, σ[p.1]? = some (some (.ref p.2)) ∧ ∃ xs, ρ[p.1]? = some (.cell xs)
  keep : ∀ a o, G.H0 a = some o → (∀ p ∈ G.pr, p.2 ≠ a) → H a = some o
  exn : ∀ (i : Nat) (c : Str), ρ[i]? = some (.exn c) → ∃ a, G.ex = some (a, c) ∧ σ[i]? = some (some (.ref a))
/-- a is no own list's place -/
def Fresh (G : Gh) (σ : St) (ρ : Env) (a : Addr) : Prop := G.H0 a = none ∧ (∀ p ∈ G.pr, p.2 ≠ a) ∧ ∀ (i : Nat) (xs : OC), ρ[i]? = some (.cell xs) → σ[i]? ≠ some (some (.ref a))
section
variable {G : Gh} {σ : St} {H H' : Hp} {ρ : Env} {a p : Addr} {o : HO}
theorem StOk.fresh (k : StOk G σ H ρ) (hp : H p = none) : Fresh G σ ρ p := by
  refine ⟨?_, ?_, ?_⟩
  · cases e : G.H0 p with
    | none => rfl
    | some u =>
      by_cases c : ∀ q ∈ G.pr, q.2 ≠ p
      · have z := k.keep p u e c
        rw [hp] at z; cases z
      · exfalso
        apply c
        intro q hq e2
        obtain ⟨h1, xs, h2⟩ := k.prot q hq
        obtain ⟨b, vs, h3, h4, _⟩ := k.own q.1 xs h2
        rw [h1] at h3
        injection h3 with h3; injection h3 with h3; injection h3 with h3
        rw [← h3, e2, hp] at h4; cases h4
  · intro q hq e2
    obtain ⟨h1, xs, h2⟩ := k.prot q hq
    obtain ⟨b, vs, h3, h4, _⟩ := k.own q.1 xs h2
    rw [h1] at h3
    injection h3 with h3; injection h3 with h3; injection h3 with h3
    rw [← h3, e2, hp] at h4; cases h4
  · intro i xs hi e
    obtain ⟨b, vs, h3, h4, _⟩ := k.own i xs hi
    rw [e] at h3
    injection h3 with h3; injection h3 with h3; injection h3 with h3
    rw [← h3, hp] at h4; cases h4
/-- new objects -/
theorem StOk.grow (k : StOk G σ H ρ) (g : Grow H H') : StOk G σ H' ρ where
  len := k.len
  dat := fun i x h => by obtain ⟨v, h1, h2⟩ := k.dat i x h; exact ⟨v, h1, h2.st g.stable⟩
  own := fun i xs h => by obtain ⟨b, vs, h1, h2, h3, h4⟩ := k.own i xs h; exact ⟨b, vs, h1, g _ _ h2, h3.st g.stable, h4⟩
  sep := k.sep
  prot := k.prot
  keep := fun b u h1 h2 => g _ _ (k.keep b u h1 h2)
  exn := k.exn
/-- a place that is no own list's is written -/
theorem StOk.upd (k : StOk G σ H ρ) (f : Fresh G σ ρ p) (hf : ∀ u, H p = some u → ¬ Fixed u) : StOk G σ (upd H p o) ρ := by
  have st : Stable H (L2.upd H p o) := fun b u hb hx => by
    by_cases e : b = p
    · subst e; exact absurd hx (hf _ hb)
    · rw [upd_ne e]; exact hb
  refine ⟨k.len, ?_, ?_, k.sep, k.prot, ?_, k.exn⟩
  · intro i x h; obtain ⟨v, h1, h2⟩ := k.dat i x h; exact ⟨v, h1, h2.st st⟩
  · intro i xs h
    obtain ⟨b, vs, h1, h2, h3, h4⟩ := k.own i xs h
    refine ⟨b, vs, h1, ?_, h3.st st, h4⟩
    rw [upd_ne]
    · exact h2
    · intro e; subst e; exact f.2.2 i xs h h1
  · intro b u h1 h2
    have : b ≠ p := by intro e; subst e; rw [f.1] at h1; cases h1
    rw [upd_ne this]; exact k.keep b u h1 h2
end

end DL
end
section
namespace DL
open PySem PySem.Spec L2
open PyProof.Rows hiding St

/-! ### the monad -/
def pureM {α : Type} (x : α) : M α := fun ρ => .ok x ρ
def bindM {α β : Type} (a : M α) (k : α → M β) : M β := fun ρ => match a ρ with
  | .ok x ρ' => k x ρ'
  | .exc c ρ' => .exc c ρ'
  | .stuck => .stuck
def stuckM {α : Type} : M α := fun _ => .stuck
def liftM {α : Type} : Option α → M α
  | some x => pureM x
  | none => stuckM
def getM (i : Nat) : M D := fun ρ => match ρ[i]? with
  | some (.d x) => .ok x ρ
  | _ => .stuck
/-- an own list, read -/
def getO (i : Nat) : M (List D) := fun ρ => match ρ[i]? with
  | some (.cell (.l xs)) => .ok xs ρ
  | _ => .stuck
def putO (i : Nat) (xs : List D) : M Unit := fun ρ => .ok () (ρ.set i (.own xs))
def postG {α : Type} (G : Gh) (W : WX) (σ : L2.St) (H : Hp) (r : Res α) (Q : α → Env → Hp → Prop) : Prop := match r with
  | .ok a ρ => ∀ H', Stable H H' → StOk G σ H' ρ → Q a ρ H'
  | .exc c ρ => ∀ C H', G.m.mg c = some (.ref C) → Stable H H' → StOk G σ H' ρ → W (.ref C) none σ H'
  | .stuck => False
section
variable {G : Gh} {W : WX} {σ : L2.St} {H H1 : Hp} {α β : Type}
theorem postG.from {r : Res α} {Q : α → Env → Hp → Prop} (s : Stable H H1) (h : postG G W σ H r Q) : postG G W σ H1 r Q := by
  cases r with
  | ok a ρ => exact fun H' s' k => h H' (s.trans s') k
  | exc c ρ => exact fun C H' e s' k => h C H' e (s.trans s') k
  | stuck => exact h
theorem postG.mono {r : Res α} {Q Q' : α → Env → Hp → Prop} (h : postG G W σ H r Q) (k : ∀ a ρ H', r = .ok a ρ → Stable H H' → StOk G σ H' ρ → Q a ρ H' → Q' a ρ H') : postG G W σ H r Q' := by
  cases r with
  | ok a ρ => exact fun H' s' st => k a ρ H' rfl s' st (h H' s' st)
  | exc c ρ => exact h
  | stuck => exact h
theorem postG.bind {a : M α} {k : α → M β} {ρ : Env} {Q : β → Env → Hp → Prop} (h : postG G W σ H (bindM a k ρ) Q) :
    postG G W σ H (a ρ) (fun x ρ1 H1 => postG G W σ H1 (k x ρ1) Q) := by
  unfold bindM at h
  cases e : a ρ with
  | ok x ρ1 =>
    rw [e] at h
    exact fun H1 s1 _ => postG.from s1 h
  | exc c ρ1 => rw [e] at h; exact h
  | stuck => rw [e] at h; exact h
theorem postG.lift {o : Option α} {ρ : Env} {Q : α → Env → Hp → Prop} (k : StOk G σ H ρ) (h : postG G W σ H (liftM o ρ) Q) : ∃ x, o = some x ∧ ∀ H', Stable H H' → StOk G σ H' ρ → Q x ρ H' := by
  cases o with
  | some x => exact ⟨x, rfl, h⟩
  | none => exact h.elim
end

/-! ### expressions -/
def dT (G : Gh) (W : WX) (f : M D) : TE := fun σ H Q => ∃ ρ, StOk G σ H ρ ∧ postG G W σ H (f ρ) fun d _ H' => ∀ v, Rep G.m H' v d → Q v H'
/-- the expression computes f -/
def DE (X : Cx) (G : Gh) (W : WX) (e : Expr) (f : M D) : Prop := PE X e (dT G W f)
/-- .. a list of its own -/
def oT (G : Gh) (W : WX) (f : M (List D)) : TE := fun σ H Q => ∃ ρ, StOk G σ H ρ ∧ postG G W σ H (f ρ) fun ds ρ' H' => ∀ a vs, H' a = some (.lst vs) → RepL G.m H' vs ds → Fresh G σ ρ' a → Q (.ref a) H'
def DO (X : Cx) (G : Gh) (W : WX) (e : Expr) (f : M (List D)) : Prop := PE X e (oT G W f)
/-- a test -/
def tT (G : Gh) (W : WX) (f : M Bool) : TT := fun σ H Q => ∃ ρ, StOk G σ H ρ ∧ postG G W σ H (f ρ) fun b _ H' => Q b H'
def DT (X : Cx) (G : Gh) (W : WX) (e : Expr) (f : M Bool) : Prop := PT X e (tT G W f)
/-- arguments, all of them data -/
def aT (G : Gh) (W : WX) (f : M (List D)) : TA := fun σ H Q => ∃ ρ, StOk G σ H ρ ∧ postG G W σ H (f ρ) fun ds _ H' => ∀ vs, RepL G.m H' vs ds → Q vs H'
def DA (X : Cx) (G : Gh) (W : WX) (es : List Expr) (f : M (List D)) : Prop := PA X es (aT G W f)
theorem pe_imp {X : Cx} {e : Expr} {t t' : TE} (h : PE X e t) (k : ∀ σ H Q, t' σ H Q → t σ H Q) : PE X e t' := ⟨fun pins s σ H Q I q => h.run pins s σ H Q I (k σ H Q q)⟩
theorem pt_imp {X : Cx} {e : Expr} {t t' : TT} (h : PT X e t) (k : ∀ σ H Q, t' σ H Q → t σ H Q) : PT X e t' := ⟨fun pins s σ H Q I q => h.run pins s σ H Q I (k σ H Q q)⟩
theorem pw_imp {X : Cx} {e : Expr} {t t' : TT} (h : PW X e t) (k : ∀ σ H Q, t' σ H Q → t σ H Q) : PW X e t' := ⟨fun wh pins s σ H Q I q => h.run wh pins s σ H Q I (k σ H Q q)⟩
theorem pa_imp {X : Cx} {es : List Expr} {t t' : TA} (h : PA X es t) (k : ∀ σ H Q, t' σ H Q → t σ H Q) : PA X es t' := ⟨fun pos pins s σ H Q I q => h.run pos pins s σ H Q I (k σ H Q q)⟩
theorem ps_imp {X : Cx} {e : Stmt} {t t' : TS} (h : PS X e t) (k : ∀ D σ H, t' D σ H → t D σ H) : PS X e t' := ⟨fun pins s σ H D I q => h.run pins s σ H D I (k D σ H q)⟩
theorem pss_imp {X : Cx} {e : List Stmt} {t t' : TS} (h : PSs X e t) (k : ∀ D σ H, t' D σ H → t D σ H) : PSs X e t' := ⟨fun pins s σ H D I q => h.run pins s σ H D I (k D σ H q)⟩

/-- a fresh mutable object is frozen -/
def tFz (t : TE) : TE := fun σ H Q => t σ H fun v H' => Q v H' ∨ ∃ a u, v = .ref a ∧ H' a = some u ∧ Mut (some u) ∧ ∀ o, Q v (upd H' a (.frz o u))
theorem pe_fz {X : Cx} {e : Expr} {t : TE} (h : PE X e t) : PE X e (tFz t) := ⟨fun pins s σ H Q I q => thn (h.run pins s σ H _ I q) fun v s1 ⟨x, H1, I1, r, q1⟩ => by
  rcases q1 with q1 | ⟨a, u, e, hu, mu, q1⟩
  · exact ⟨x, H1, I1, r, q1⟩
  · obtain ⟨od, I2⟩ := I1.lock hu mu
    exact ⟨x, _, I2, r, q1 od⟩⟩
theorem nfix_of {u v : HO} {H : Hp} {a : Addr} (h : H a = some u) (m : ¬ Fixed u) (e : H a = some v) : ¬ Fixed v := by
  rw [h] at e; cases e
  exact m
theorem Stable.upd {H : Hp} {a : Addr} {u w : HO} (h : H a = some u) (m : ¬ Fixed u) : Stable H (L2.upd H a w) := fun b v hb fx => by
  by_cases e : b = a
  · subst e; exact absurd fx (nfix_of h m hb)
  · rw [upd_ne e]; exact hb

section
variable {X : Cx} {G : Gh} {W : WX} {e a b : Expr} {pos : Pos}
/-- a list of its own as data: frozen -/
def lstM (f : M (List D)) : M D := bindM f fun ds => pureM (.lst ds)
theorem de_fz {f : M (List D)} (h : DO X G W e f) : DE X G W e (lstM f) := pe_imp (pe_fz h) fun σ H Q ⟨ρ, k, q⟩ => ⟨ρ, k, q.bind.mono fun ds ρ1 H1 _ s1 k1 q1 a vs ha hr hf => .inr ⟨a, _, rfl, ha, trivial, fun o => by
  have st : Stable H1 (upd H1 a (.frz o (.lst vs))) := Stable.upd ha id
  exact q1 _ st (k1.upd hf fun u hu => nfix_of ha id hu) _ (.lst (.inl ⟨o, upd_same⟩) (hr.st st))⟩⟩

/-! ### names, constants -/
theorem de_var (i : Nat) {x : Str} (hN : X.N[i]? = some x) (hv : Vis X.env.scope x := by first | exact .inl rfl | exact .inr (.inl rfl) | exact .inr (.inr rfl)) (hd : (x == ("__debug__" : Str)) = false := by decide) (hcd : (x == ("__classdict__" : Str)) = false := by decide) :
    DE X G W (.Name x pos) (getM i) := pe_imp (pe_var (i := i) hN hv hd hcd) fun σ H Q ⟨ρ, k, q⟩ => by
  unfold getM at q
  cases e : ρ[i]? with
  | none => rw [e] at q; exact q.elim
  | some sl =>
    rw [e] at q
    cases sl with
    | no => exact q.elim
    | cell xs => exact q.elim
    | exn xs => exact q.elim
    | d x =>
      obtain ⟨v, h1, h2⟩ := k.dat i x e
      exact ⟨v, h1, q H Stable.rfl k v h2⟩
theorem de_int {i j} : DE X G W (.Constant (.int i) j pos) (pureM (.int i)) := pe_imp pe_int fun σ H Q ⟨ρ, k, q⟩ => q H Stable.rfl k _ (.int i)
theorem de_bl {i j} : DE X G W (.Constant (.bool i) j pos) (pureM (.bl i)) := pe_imp pe_bl fun σ H Q ⟨ρ, k, q⟩ => q H Stable.rfl k _ (.bl i)
theorem de_str {i j} : DE X G W (.Constant (.str i) j pos) (pureM (.str i)) := pe_imp pe_str fun σ H Q ⟨ρ, k, q⟩ => q H Stable.rfl k _ (.str i)
/-- a module's constant -/
theorem de_glob {x : Str} {v : V} {u : Value} {d : D} (hg : Gl X x) (hm : X.mg x = some u) (r : RelV v u) (rp : ∀ H, Rep G.m H v d) (hd : (x == ("__debug__" : Str)) = false := by decide) : DE X G W (.Name x pos) (pureM d) :=
  pe_imp (pe_glob hg hm r hd) fun σ H Q ⟨ρ, k, q⟩ => q H Stable.rfl k _ (rp H)

theorem de_globS {x z : Str} (hg : Gl X x) (hm : ∃ t, X.mg x = some (.str z t)) (hd : (x == ("__debug__" : Str)) = false := by decide) : DE X G W (.Name x pos) (pureM (.str z)) := by
  obtain ⟨t, h⟩ := hm
  exact de_glob (v := .str z) hg h ⟨t, rfl⟩ (fun _ => .str z) hd
theorem de_globI {x : Str} {z : Int} (hg : Gl X x) (hm : ∃ t, X.mg x = some (.int z t)) (hd : (x == ("__debug__" : Str)) = false := by decide) : DE X G W (.Name x pos) (pureM (.int z)) := by
  obtain ⟨t, h⟩ := hm
  exact de_glob (v := .int z) hg h ⟨t, rfl⟩ (fun _ => .int z) hd

/-! ### operators -/
def OpD (m : Md) (r : R2) (g : D → D → Option D) : Prop := ∀ (x y : V) (dx dy d : D) (H : Hp) (Q : VK), Rep m H x dx → Rep m H y dy → g dx dy = some d → (∀ v H', Grow H H' → Rep m H' v d → Q v H') → r x y H Q
def op2 (g : D → D → Option D) (fa fb : M D) : M D := bindM fa fun x => bindM fb fun y => liftM (g x y)
theorem op2_run {ta tb : TE} {r : R2} {g : D → D → Option D} {fa fb : M D} (hr : OpD G.m r g) (ia : ∀ σ H Q, dT G W fa σ H Q → ta σ H Q) (ib : ∀ σ H Q, dT G W fb σ H Q → tb σ H Q) {σ : L2.St} {H : Hp} {Q : VK} (h : dT G W (op2 g fa fb) σ H Q) : tOp r ta tb σ H Q := by
  obtain ⟨ρ, k, q⟩ := h
  refine ia _ _ _ ⟨ρ, k, q.bind.mono fun x ρ1 H1 _ s1 k1 q1 v rv => ?_⟩
  refine ib _ _ _ ⟨ρ1, k1, q1.bind.mono fun y ρ2 H2 _ s2 k2 q2 w rw' => ?_⟩
  obtain ⟨d, e, q3⟩ := q2.lift k2
  exact hr v w x y d H2 Q (rv.st s2) rw' e fun u H3 g3 r3 => q3 H3 g3.stable (k2.grow g3) u r3
theorem de_op {op : Operator} {r : R2} {g : D → D → Option D} {fa fb : M D} (ho : OpR X (binaryOp op) r) (hr : OpD G.m r g) (ha : DE X G W a fa) (hb : DE X G W b fb) : DE X G W (.BinOp a op b pos) (op2 g fa fb) :=
  pe_imp (pe_op ho ha hb) fun σ H Q h => op2_run hr (fun _ _ _ z => z) (fun _ _ _ z => z) h
theorem de_cmp {op : CmpOp} {r : R2} {g : D → D → Option D} {fa fb : M D} (ho : OpR X (compareOp op) r) (hr : OpD G.m r g) (ha : DE X G W a fa) (hb : DE X G W b fb) (hm : behindInMarks op b = false) : DE X G W (.Compare a [op] [b] pos) (op2 g fa fb) :=
  pe_imp (pe_cmpR ho ha hb hm) fun σ H Q h => op2_run hr (fun _ _ _ z => z) (fun _ _ _ z => z) h
theorem de_ix {r : R2} {g : D → D → Option D} {fa fb : M D} (ho : IxR X r) (hr : OpD G.m r g) (ha : DE X G W a fa) (hb : DE X G W b fb) (hs : PlainIx b := by exact fun _ _ => rfl) : DE X G W (.Subscript a b pos) (op2 g fa fb) :=
  pe_imp (pe_ix ho ha hb hs) fun σ H Q h => op2_run hr (fun _ _ _ z => z) (fun _ _ _ z => z) h
def boolM (f : M D) : M Bool := bindM f fun d => match d with
  | .bl b => pureM b
  | _ => stuckM
/-- a value that is True or False, as a test -/
theorem dt_val {f : M D} (h : DE X G W e f) (he : ∀ whole, isTrue e X.env whole = (do let v ← whole; standAt e.pos; holding [v] (truthy v)) := by intro _; rfl) : DT X G W e (boolM f) :=
  pt_imp (pt_val h he) fun σ H Q ⟨ρ, k, q⟩ => ⟨ρ, k, q.bind.mono fun d ρ1 H1 _ s1 k1 q1 v r => by
    cases r with
    | bl b => exact ⟨b, rfl, q1 H1 Stable.rfl k1⟩
    | _ => exact q1.elim⟩
theorem dt_cmp {op : CmpOp} {r : R2} {g : D → D → Option D} {fa fb : M D} (ho : OpR X (compareOp op) r) (hr : OpD G.m r g) (ha : DE X G W a fa) (hb : DE X G W b fb) (hm : behindInMarks op b = false) : DT X G W (.Compare a [op] [b] pos) (boolM (op2 g fa fb)) :=
  pt_imp (pt_cmpR ho ha hb hm) fun σ H Q ⟨ρ, k, q⟩ => op2_run hr (fun _ _ _ z => z) (fun _ _ _ z => z) ⟨ρ, k, q.bind.mono fun d ρ1 H1 _ s1 k1 q1 v r => by
    cases r with
    | bl b => exact ⟨b, rfl, q1 H1 Stable.rfl k1⟩
    | _ => exact q1.elim⟩
/-! ### and, or, not -/
def DW (X : Cx) (G : Gh) (W : WX) (e : Expr) (f : M Bool) : Prop := PW X e (tT G W f)
def andM (f g : M Bool) : M Bool := bindM f fun b => match b with
  | true => g
  | false => pureM false
def orM (f g : M Bool) : M Bool := bindM f fun b => match b with
  | true => pureM true
  | false => g
def notM (f : M Bool) : M Bool := bindM f fun b => pureM (!b)
theorem dw_and1 {f : M Bool} (h : DT X G W a f) : DW X G W (.BoolOp .And [a] pos) f := pw_and1 h
theorem dw_or1 {f : M Bool} (h : DT X G W a f) : DW X G W (.BoolOp .Or [a] pos) f := pw_or1 h
theorem dw_and {rest : List Expr} {f g : M Bool} (ha : DT X G W a f) (hb : DW X G W (.BoolOp .And (b :: rest) pos) g) : DW X G W (.BoolOp .And (a :: b :: rest) pos) (andM f g) :=
  pw_imp (pw_and ha hb) fun σ H Q ⟨ρ, k, q⟩ => ⟨ρ, k, q.bind.mono fun c ρ1 H1 _ s1 k1 q1 => by
    cases c with
    | true => rw [if_pos rfl]; exact ⟨ρ1, k1, q1⟩
    | false => rw [if_neg (by decide)]; exact q1 H1 Stable.rfl k1⟩
theorem dw_or {rest : List Expr} {f g : M Bool} (ha : DT X G W a f) (hb : DW X G W (.BoolOp .Or (b :: rest) pos) g) : DW X G W (.BoolOp .Or (a :: b :: rest) pos) (orM f g) :=
  pw_imp (pw_or ha hb) fun σ H Q ⟨ρ, k, q⟩ => ⟨ρ, k, q.bind.mono fun c ρ1 H1 _ s1 k1 q1 => by
    cases c with
    | true => rw [if_pos rfl]; exact q1 H1 Stable.rfl k1
    | false => rw [if_neg (by decide)]; exact ⟨ρ1, k1, q1⟩⟩
theorem dt_w {f : M Bool} (h : DW X G W e f) : DT X G W e f := h.pt
theorem dt_not {f : M Bool} (h : DT X G W a f) : DT X G W (.UnaryOp .Not a pos) (notM f) :=
  pt_imp (pt_not h) fun σ H Q ⟨ρ, k, q⟩ => ⟨ρ, k, q.bind.mono fun c ρ1 H1 _ s1 k1 q1 => q1 H1 Stable.rfl k1⟩
/-- values -/
def andV (f g : M D) : M D := bindM f fun b => match b with
  | .bl true => g
  | .bl false => pureM (.bl false)
  | _ => stuckM
def orV (f g : M D) : M D := bindM f fun b => match b with
  | .bl true => pureM (.bl true)
  | .bl false => g
  | _ => stuckM
def notV (f : M D) : M D := bindM f fun b => match b with
  | .bl b => pureM (.bl (!b))
  | _ => stuckM
theorem de_one {op} {f : M D} (h : DE X G W a f) : DE X G W (.BoolOp op [a] pos) f := pe_one h
theorem de_and {rest : List Expr} {f g : M D} (ha : DE X G W a f) (hb : DE X G W (.BoolOp .And (b :: rest) pos) g) : DE X G W (.BoolOp .And (a :: b :: rest) pos) (andV f g) :=
  pe_imp (pe_and ha hb) fun σ H Q ⟨ρ, k, q⟩ => ⟨ρ, k, q.bind.mono fun c ρ1 H1 _ s1 k1 q1 v r => by
    cases r with
    | bl b =>
      refine ⟨b, rfl, ?_⟩
      cases b with
      | true => rw [if_pos rfl]; exact ⟨ρ1, k1, q1⟩
      | false => rw [if_neg (by decide)]; exact q1 H1 Stable.rfl k1 _ (.bl false)
    | _ => exact q1.elim⟩
def iteM {α : Type} (c : M Bool) (f g : M α) : M α := bindM c fun b => match b with
  | true => f
  | false => g
theorem de_if {c : Expr} {t : M Bool} {f g : M D} (hc : DT X G W c t) (ha : DE X G W a f) (hb : DE X G W b g) : DE X G W (.IfExp c a b pos) (iteM t f g) :=
  pe_imp (pe_ifExp hc ha hb) fun σ H Q ⟨ρ, k, q⟩ => ⟨ρ, k, q.bind.mono fun c ρ1 H1 _ s1 k1 q1 => by
    cases c with
    | true => rw [if_pos rfl]; exact ⟨ρ1, k1, q1⟩
    | false => rw [if_neg (by decide)]; exact ⟨ρ1, k1, q1⟩⟩
/-- x is None -/
def isNb : D → Bool
  | .non => true
  | _ => false
def isN (f : M D) : M D := bindM f fun d => pureM (.bl (isNb d))
def notN (f : M D) : M D := bindM f fun d => pureM (.bl (!isNb d))
theorem Rep.isN {m : Md} {H : Hp} {v : V} {d : D} (r : Rep m H v d) : decide (v = V.non) = isNb d := by
  cases r <;> simp [isNb]
/-! ### arguments, displays -/
theorem da_nil : DA X G W [] (pureM []) := pa_imp pa_nil fun σ H Q ⟨ρ, k, q⟩ => q H Stable.rfl k _ .nil
def consM (f : M D) (g : M (List D)) : M (List D) := bindM f fun x => bindM g fun xs => pureM (x :: xs)
theorem da_cons {es : List Expr} {f : M D} {g : M (List D)} (ha : DE X G W e f) (hr : DA X G W es g) (hs : starEach (e :: es) X.env = (false, eval e X.env) :: starEach es X.env := by rfl) : DA X G W (e :: es) (consM f g) :=
  pa_imp (pa_cons ha hr hs) fun σ H Q ⟨ρ, k, q⟩ => ⟨ρ, k, q.bind.mono fun x ρ1 H1 _ s1 k1 q1 v r => ⟨ρ1, k1, q1.bind.mono fun xs ρ2 H2 _ s2 k2 q2 vs rs => q2 H2 Stable.rfl k2 _ (.cons (r.st s2) rs)⟩⟩
def sizeM (f : M (List D)) : M (List D) := bindM f fun xs => if xs.length ≤ sizeLine then pureM xs else stuckM
theorem do_lst {es : List Expr} {f : M (List D)} (h : DA X G W es f) : DO X G W (.List es pos) (sizeM f) :=
  pe_imp (pe_lst h) fun σ H Q ⟨ρ, k, q⟩ => ⟨ρ, k, q.bind.mono fun xs ρ1 H1 _ s1 k1 q1 vs r => by
    by_cases hz : xs.length ≤ sizeLine
    · rw [if_pos hz] at q1
      refine ⟨by rw [r.len]; exact hz, fun p hp => ?_⟩
      have g := Grow.new (o := .lst vs) hp
      exact q1 _ g.stable (k1.grow g) p vs upd_same (r.st g.stable) (k1.fresh hp)
    · rw [if_neg hz] at q1; exact q1.elim⟩
def tupM (f : M (List D)) : M D := bindM (sizeM f) fun xs => pureM (.tup xs)
theorem de_tup {x1} {es : List Expr} {f : M (List D)} (h : DA X G W es f) : DE X G W (.Tuple es x1 pos) (tupM f) :=
  pe_imp (pe_tup h) fun σ H Q ⟨ρ, k, q⟩ => ⟨ρ, k, q.bind.bind.mono fun xs ρ1 H1 _ s1 k1 q1 vs r => by
    by_cases hz : xs.length ≤ sizeLine
    · rw [if_pos hz] at q1
      refine ⟨by rw [r.len]; exact hz, fun p hp => ?_⟩
      have g := Grow.new (o := .tup vs) hp
      exact q1 H1 Stable.rfl k1 _ g.stable (k1.grow g) _ (.tup (SqT.of upd_same) (r.st g.stable))
    · rw [if_neg hz] at q1; exact q1.elim⟩

/-! ### calls of builtins -/
def CallD (m : Md) (r : List V → Hp → VK → Prop) (g : List D → Option D) : Prop := ∀ (vs : List V) (ds : List D) (d : D) (H : Hp) (Q : VK), RepL m H vs ds → g ds = some d → (∀ v H', Grow H H' → Rep m H' v d → Q v H') → r vs H Q
def CallO (m : Md) (r : List V → Hp → VK → Prop) (g : List D → Option (List D)) : Prop := ∀ (vs : List V) (ds d : List D) (H : Hp) (Q : VK), RepL m H vs ds → g ds = some d → (∀ p ws H', Grow H H' → H p = none → H' p = some (.lst ws) → RepL m H' ws d → Q (.ref p) H') → r vs H Q
def callD (g : List D → Option D) (f : M (List D)) : M D := bindM f fun xs => liftM (g xs)
def callO (g : List D → Option (List D)) (f : M (List D)) : M (List D) := bindM f fun xs => liftM (g xs)
theorem callD_run {t : TA} {r : List V → Hp → VK → Prop} {g : List D → Option D} {f : M (List D)} (hr : CallD G.m r g) (ia : ∀ σ H Q, aT G W f σ H Q → t σ H Q) {σ : L2.St} {H : Hp} {Q : VK} (h : dT G W (callD g f) σ H Q) : tCB r t σ H Q := by
  obtain ⟨ρ, k, q⟩ := h
  refine ia _ _ _ ⟨ρ, k, q.bind.mono fun xs ρ1 H1 _ s1 k1 q1 vs rv => ?_⟩
  obtain ⟨d, e, q3⟩ := q1.lift k1
  exact hr vs xs d H1 Q rv e fun u H3 g3 r3 => q3 H3 g3.stable (k1.grow g3) u r3
theorem callO_run {t : TA} {r : List V → Hp → VK → Prop} {g : List D → Option (List D)} {f : M (List D)} (hr : CallO G.m r g) (ia : ∀ σ H Q, aT G W f σ H Q → t σ H Q) {σ : L2.St} {H : Hp} {Q : VK} (h : oT G W (callO g f) σ H Q) : tCB r t σ H Q := by
  obtain ⟨ρ, k, q⟩ := h
  refine ia _ _ _ ⟨ρ, k, q.bind.mono fun xs ρ1 H1 _ s1 k1 q1 vs rv => ?_⟩
  obtain ⟨d, e, q3⟩ := q1.lift k1
  exact hr vs xs d H1 Q rv e fun p ws H3 g3 hp h3 r3 => q3 H3 g3.stable (k1.grow g3) p ws h3 r3 (k1.fresh hp)
variable {x : Str} {p : Pos} {es : List Expr} {id T : String}
theorem de_callB {r : List V → Hp → VK → Prop} {g : List D → Option D} {f : M (List D)} (hc : CallR X (.builtin id) r) (hr : CallD G.m r g) (hg : Gl X x) (hm : X.mg x = none) (hv : bootBuiltins x = some (.builtin id)) (ha : DA X G W (e :: es) f) (hn : x ≠ "__name__" := by decide) (hdb : (x == ("__debug__" : Str)) = false := by decide)
    (he : starEach (e :: es) X.env = (false, eval e X.env) :: starEach es X.env := by rfl) (hpl : (backTo pos (starEach es X.env)).any (·.1) = false := by rfl) : DE X G W (.Call (.Name x p) (e :: es) [] pos) (callD g f) :=
  pe_imp (pe_callB hc hg hm hv ha hn hdb he hpl) fun σ H Q h => callD_run hr (fun _ _ _ z => z) h
theorem de_callTy {r : List V → Hp → VK → Prop} {g : List D → Option D} {f : M (List D)} (hc : CallR X (.type T) r) (hr : CallD G.m r g) (hg : Gl X x) (hm : X.mg x = none) (hv : bootBuiltins x = some (.type T)) (ha : DA X G W (e :: es) f) (hn : x ≠ "__name__" := by decide) (hdb : (x == ("__debug__" : Str)) = false := by decide)
    (he : starEach (e :: es) X.env = (false, eval e X.env) :: starEach es X.env := by rfl) (hpl : (backTo pos (starEach es X.env)).any (·.1) = false := by rfl) : DE X G W (.Call (.Name x p) (e :: es) [] pos) (callD g f) :=
  pe_imp (pe_callTy hc hg hm hv ha hn hdb he hpl) fun σ H Q h => callD_run hr (fun _ _ _ z => z) h
theorem do_callB {r : List V → Hp → VK → Prop} {g : List D → Option (List D)} {f : M (List D)} (hc : CallR X (.builtin id) r) (hr : CallO G.m r g) (hg : Gl X x) (hm : X.mg x = none) (hv : bootBuiltins x = some (.builtin id)) (ha : DA X G W (e :: es) f) (hn : x ≠ "__name__" := by decide) (hdb : (x == ("__debug__" : Str)) = false := by decide)
    (he : starEach (e :: es) X.env = (false, eval e X.env) :: starEach es X.env := by rfl) (hpl : (backTo pos (starEach es X.env)).any (·.1) = false := by rfl) : DO X G W (.Call (.Name x p) (e :: es) [] pos) (callO g f) :=
  pe_imp (pe_callB hc hg hm hv ha hn hdb he hpl) fun σ H Q h => callO_run hr (fun _ _ _ z => z) h
theorem do_callTy {r : List V → Hp → VK → Prop} {g : List D → Option (List D)} {f : M (List D)} (hc : CallR X (.type T) r) (hr : CallO G.m r g) (hg : Gl X x) (hm : X.mg x = none) (hv : bootBuiltins x = some (.type T)) (ha : DA X G W (e :: es) f) (hn : x ≠ "__name__" := by decide) (hdb : (x == ("__debug__" : Str)) = false := by decide)
    (he : starEach (e :: es) X.env = (false, eval e X.env) :: starEach es X.env := by rfl) (hpl : (backTo pos (starEach es X.env)).any (·.1) = false := by rfl) : DO X G W (.Call (.Name x p) (e :: es) [] pos) (callO g f) :=
  pe_imp (pe_callTy hc hg hm hv ha hn hdb he hpl) fun σ H Q h => callO_run hr (fun _ _ _ z => z) h
end
end DL
end
section
namespace DL
open PySem PySem.Spec L2
open PyProof.Rows hiding St

/-! ### stores into the slots -/
section
variable {G : Gh} {σ : L2.St} {H H' : Hp} {ρ : Env} {a p : Addr} {o : HO}
theorem set_get {α : Type} {l : List α} {i j : Nat} {x y : α} (h : (l.set i x)[j]? = some y) : (i = j ∧ y = x ∧ i < l.length) ∨ (i ≠ j ∧ l[j]? = some y) := by
  by_cases e : i = j
  · subst e
    rw [List.getElem?_set_self'] at h
    cases q : l[i]? with
    | none => rw [q] at h; simp at h
    | some z =>
      rw [q] at h; simp at h
      exact .inl ⟨rfl, h.symm, (List.getElem?_eq_some_iff.mp q).1⟩
  · rw [List.getElem?_set_ne e] at h
    exact .inr ⟨e, h⟩
/-- slot i is stored; the rest stands -/
theorem StOk.setD (k : StOk G σ H ρ) {i : Nat} {v : V} {d : D} (hp : ∀ p ∈ G.pr, p.1 ≠ i) (r : Rep G.m H v d) : StOk G (σ.set i (some v)) H (ρ.set i (.d d)) where
  len := by simp [k.len]
  dat := fun j x h => by
    rcases set_get h with ⟨e, e2, hl⟩ | ⟨e, h⟩
    · subst e; cases e2
      exact ⟨v, by rw [List.getElem?_set_self (by rw [k.len]; exact hl)], r⟩
    · obtain ⟨w, h1, h2⟩ := k.dat j x h
      exact ⟨w, by rw [List.getElem?_set_ne e]; exact h1, h2⟩
  own := fun j xs h => by
    rcases set_get h with ⟨e, e2, hl⟩ | ⟨e, h⟩
    · cases e2
    · obtain ⟨b, vs, h1, h2⟩ := k.own j xs h
      exact ⟨b, vs, by rw [List.getElem?_set_ne e]; exact h1, h2⟩
  sep := fun j l xs ys b ne h1 h2 h3 => by
    rcases set_get h1 with ⟨e, e2, hl⟩ | ⟨e, h1⟩
    · cases e2
    rcases set_get h2 with ⟨e', e2, hl⟩ | ⟨e', h2⟩
    · cases e2
    rw [List.getElem?_set_ne e] at h3
    rw [List.getElem?_set_ne e']
    exact k.sep j l xs ys b ne h1 h2 h3
  prot := fun p hm => by
    obtain ⟨h1, xs, h2⟩ := k.prot p hm
    have ne : i ≠ p.1 := fun e => hp p hm e.symm
    exact ⟨by rw [List.getElem?_set_ne ne]; exact h1, xs, by rw [List.getElem?_set_ne ne]; exact h2⟩
  keep := k.keep
  exn := fun j c h => by
    rcases set_get h with ⟨e, e2, hl⟩ | ⟨e, h⟩
    · cases e2
    · obtain ⟨b, h1, h2⟩ := k.exn j c h
      exact ⟨b, h1, by rw [List.getElem?_set_ne e]; exact h2⟩
theorem StOk.setC (k : StOk G σ H ρ) {i : Nat} {vs : HO} {ds : OC} (hp : ∀ p ∈ G.pr, p.1 ≠ i) (ha : H a = some vs) (r : RepO G.m H a vs ds) (f : Fresh G σ ρ a) : StOk G (σ.set i (some (.ref a))) H (ρ.set i (.cell ds)) where
  len := by simp [k.len]
  dat := fun j x h => by
    rcases set_get h with ⟨e, e2, hl⟩ | ⟨e, h⟩
    · cases e2
    · obtain ⟨w, h1, h2⟩ := k.dat j x h
      exact ⟨w, by rw [List.getElem?_set_ne e]; exact h1, h2⟩
  own := fun j xs h => by
    rcases set_get h with ⟨e, e2, hl⟩ | ⟨e, h⟩
    · subst e; cases e2
      exact ⟨a, vs, by rw [List.getElem?_set_self (by rw [k.len]; exact hl)], ha, r, fun _ => ⟨f.1, f.2.1⟩⟩
    · obtain ⟨b, vs, h1, h2⟩ := k.own j xs h
      exact ⟨b, vs, by rw [List.getElem?_set_ne e]; exact h1, h2⟩
  sep := fun j l xs ys b ne h1 h2 h3 => by
    rcases set_get h1 with ⟨e, e2, hl⟩ | ⟨e, h1⟩
    · subst e; cases e2
      rw [List.getElem?_set_self (by rw [k.len]; exact hl)] at h3
      injection h3 with h3; injection h3 with h3; injection h3 with h3
      subst h3
      rcases set_get h2 with ⟨e', e2, hl⟩ | ⟨e', h2⟩
      · exact absurd e' ne
      · rw [List.getElem?_set_ne e']
        exact f.2.2 l ys h2
    · rw [List.getElem?_set_ne e] at h3
      rcases set_get h2 with ⟨e', e2, hl⟩ | ⟨e', h2⟩
      · subst e'; cases e2
        rw [List.getElem?_set_self (by rw [k.len]; exact hl)]
        intro h4
        injection h4 with h4; injection h4 with h4; injection h4 with h4
        subst h4
        exact f.2.2 j xs h1 h3
      · rw [List.getElem?_set_ne e']
        exact k.sep j l xs ys b ne h1 h2 h3
  prot := fun p hm => by
    obtain ⟨h1, xs, h2⟩ := k.prot p hm
    have ne : i ≠ p.1 := fun e => hp p hm e.symm
    exact ⟨by rw [List.getElem?_set_ne ne]; exact h1, xs, by rw [List.getElem?_set_ne ne]; exact h2⟩
  keep := k.keep
  exn := fun j c h => by
    rcases set_get h with ⟨e, e2, hl⟩ | ⟨e, h⟩
    · cases e2
    · obtain ⟨b, h1, h2⟩ := k.exn j c h
      exact ⟨b, h1, by rw [List.getElem?_set_ne e]; exact h2⟩
/-- an own list's content is written -/
theorem StOk.wroteC (k : StOk G σ H ρ) {i : Nat} {xs : OC} {vs : HO} {ds : OC} (hi : ρ[i]? = some (.cell xs)) (ha : σ[i]? = some (some (.ref a))) (r : RepO G.m H a vs ds) : StOk G σ (L2.upd H a vs) (ρ.set i (.cell ds)) := by
  obtain ⟨a', vs0, h1, h2, h3, h4⟩ := k.own i xs hi
  rw [ha] at h1; injection h1 with h1; injection h1 with h1; injection h1 with h1
  subst h1
  have st : Stable H (L2.upd H a vs) := fun b u hb fx => by
    by_cases e : b = a
    · subst e; rw [h2] at hb; cases hb; exact absurd fx h3.nf
    · rw [upd_ne e]; exact hb
  have hl : i < ρ.length := (List.getElem?_eq_some_iff.mp hi).1
  refine ⟨by simp [k.len], fun j x h => ?_, fun j ys h => ?_, fun j l ys zs b ne e1 e2 e3 => ?_, fun p hm => ?_, fun b u e1 e2 => ?_, fun j c h => ?_⟩
  · rcases set_get h with ⟨e, e2, hl⟩ | ⟨e, h⟩
    · cases e2
    · obtain ⟨w, q1, q2⟩ := k.dat j x h
      exact ⟨w, q1, q2.st st⟩
  · rcases set_get h with ⟨e, e2, hl⟩ | ⟨e, h⟩
    · subst e; cases e2
      exact ⟨a, vs, ha, upd_same, r.st st, h4⟩
    · obtain ⟨b, ws, q1, q2, q3, q4⟩ := k.own j ys h
      refine ⟨b, ws, q1, ?_, q3.st st, q4⟩
      rw [upd_ne]
      · exact q2
      · intro z; subst z
        exact k.sep i j xs ys b e hi h ha q1
  · have o1 : ∃ us, ρ[j]? = some (.cell us) := by
      rcases set_get e1 with ⟨e, _, _⟩ | ⟨_, h⟩
      · subst e; exact ⟨xs, hi⟩
      · exact ⟨_, h⟩
    have o2 : ∃ us, ρ[l]? = some (.cell us) := by
      rcases set_get e2 with ⟨e, _, _⟩ | ⟨_, h⟩
      · subst e; exact ⟨xs, hi⟩
      · exact ⟨_, h⟩
    obtain ⟨u1, o1⟩ := o1
    obtain ⟨u2, o2⟩ := o2
    exact k.sep j l u1 u2 b ne o1 o2 e3
  · obtain ⟨q1, ys, q2⟩ := k.prot p hm
    refine ⟨q1, ?_⟩
    by_cases e : i = p.1
    · exact ⟨ds, by rw [← e, List.getElem?_set_self hl]⟩
    · exact ⟨ys, by rw [List.getElem?_set_ne e]; exact q2⟩
  · have : b ≠ a := by
      intro z; subst z
      by_cases c : ∀ p ∈ G.pr, p.1 ≠ i
      · have q := (h4 c).1
        rw [e1] at q; cases q
      · apply c
        intro p hp z
        obtain ⟨q1, _⟩ := k.prot p hp
        rw [z, ha] at q1
        injection q1 with q1; injection q1 with q1; injection q1 with q1
        exact e2 p hp q1.symm
    rw [upd_ne this]; exact k.keep b u e1 e2
  · rcases set_get h with ⟨e, e2, hl⟩ | ⟨e, h⟩
    · cases e2
    · exact k.exn j c h
/-- an own slot becomes data: its list is frozen -/
theorem StOk.frozeC (k : StOk G σ H ρ) {i : Nat} {xs : OC} {vs : HO} {d : D} {ob : Obj} (hp : ∀ p ∈ G.pr, p.1 ≠ i) (hi : ρ[i]? = some (.cell xs)) (ha : σ[i]? = some (some (.ref a))) (hv : H a = some vs) (r : RepO G.m H a vs xs) (rd : Rep G.m (L2.upd H a (.frz ob vs)) (.ref a) d) : StOk G σ (L2.upd H a (.frz ob vs)) (ρ.set i (.d d)) := by
  obtain ⟨a', vs0, h1, h2, h3, h4⟩ := k.own i xs hi
  rw [ha] at h1; injection h1 with h1; injection h1 with h1; injection h1 with h1
  subst h1
  have st : Stable H (L2.upd H a (.frz ob vs)) := Stable.upd hv r.nf
  have hl : i < ρ.length := (List.getElem?_eq_some_iff.mp hi).1
  refine ⟨by simp [k.len], fun j x h => ?_, fun j ys h => ?_, fun j l ys zs b ne e1 e2 e3 => ?_, fun p hm => ?_, fun b u e1 e2 => ?_, fun j c h => ?_⟩
  · rcases set_get h with ⟨e, e2, hl⟩ | ⟨e, h⟩
    · subst e; cases e2
      exact ⟨_, ha, rd⟩
    · obtain ⟨w, q1, q2⟩ := k.dat j x h
      exact ⟨w, q1, q2.st st⟩
  · rcases set_get h with ⟨e, e2, hl⟩ | ⟨e, h⟩
    · cases e2
    · obtain ⟨b, ws, q1, q2, q3, q4⟩ := k.own j ys h
      refine ⟨b, ws, q1, ?_, q3.st st, q4⟩
      rw [upd_ne]
      · exact q2
      · intro z; subst z
        exact k.sep i j xs ys b e hi h ha q1
  · rcases set_get e1 with ⟨e, q, _⟩ | ⟨_, g1⟩
    · cases q
    rcases set_get e2 with ⟨e, q, _⟩ | ⟨_, g2⟩
    · cases q
    exact k.sep j l ys zs b ne g1 g2 e3
  · obtain ⟨q1, ys, q2⟩ := k.prot p hm
    have e : i ≠ p.1 := fun z => hp p hm z.symm
    exact ⟨q1, ys, by rw [List.getElem?_set_ne e]; exact q2⟩
  · have : b ≠ a := by
      intro z; subst z
      have q := (h4 hp).1
      rw [e1] at q; cases q
    rw [upd_ne this]; exact k.keep b u e1 e2
  · rcases set_get h with ⟨e, e2, hl⟩ | ⟨e, h⟩
    · cases e2
    · exact k.exn j c h
theorem StOk.setO (k : StOk G σ H ρ) {i : Nat} {vs : List V} {ds : List D} (hp : ∀ p ∈ G.pr, p.1 ≠ i) (ha : H a = some (.lst vs)) (r : RepL G.m H vs ds) (f : Fresh G σ ρ a) : StOk G (σ.set i (some (.ref a))) H (ρ.set i (.own ds)) := k.setC hp ha ⟨vs, rfl, r⟩ f
theorem StOk.wrote (k : StOk G σ H ρ) {i : Nat} {xs : List D} {vs : List V} {ds : List D} (hi : ρ[i]? = some (.own xs)) (ha : σ[i]? = some (some (.ref a))) (r : RepL G.m H vs ds) : StOk G σ (L2.upd H a (.lst vs)) (ρ.set i (.own ds)) := k.wroteC hi ha ⟨vs, rfl, r⟩
/-- an own list -/
theorem StOk.ownL (k : StOk G σ H ρ) (i : Nat) (xs : List D) (h : ρ[i]? = some (.own xs)) : ∃ a vs, σ[i]? = some (some (.ref a)) ∧ H a = some (.lst vs) ∧ RepL G.m H vs xs ∧ ((∀ p ∈ G.pr, p.1 ≠ i) → G.H0 a = none ∧ ∀ p ∈ G.pr, p.2 ≠ a) := by
  obtain ⟨a, o, h1, h2, ⟨vs, rfl, h3⟩, h4⟩ := k.own i _ h
  exact ⟨a, vs, h1, h2, h3, h4⟩
end

/-! ### own lists in expressions -/
section
variable {X : Cx} {G : Gh} {W : WX} {e a b : Expr} {pos : Pos}
theorem getO_run {i : Nat} {ρ : Env} {σ : L2.St} {H : Hp} {β : Type} {k : List D → M β} {Q : β → Env → Hp → Prop} (h : postG G W σ H (bindM (getO i) k ρ) Q) : ∃ xs, ρ[i]? = some (.own xs) ∧ postG G W σ H (k xs ρ) Q := by
  unfold bindM at h
  cases e : ρ[i]? with
  | none =>
    have e2 : getO i ρ = .stuck := by unfold getO; rw [e]
    rw [e2] at h; exact h.elim
  | some sl =>
    match sl, e with
    | .cell (.l xs), e =>
      have e2 : getO i ρ = .ok xs ρ := by unfold getO; rw [e]
      rw [e2] at h; exact ⟨xs, rfl, h⟩
    | .cell (.k _ _), e =>
      have e2 : getO i ρ = .stuck := by unfold getO; rw [e]
      rw [e2] at h; exact h.elim
    | .no, e =>
      have e2 : getO i ρ = .stuck := by unfold getO; rw [e]
      rw [e2] at h; exact h.elim
    | .d _, e =>
      have e2 : getO i ρ = .stuck := by unfold getO; rw [e]
      rw [e2] at h; exact h.elim
    | .exn _, e =>
      have e2 : getO i ρ = .stuck := by unfold getO; rw [e]
      rw [e2] at h; exact h.elim
def pfree (G : Gh) (i : Nat) : Prop := ∀ p ∈ G.pr, p.1 ≠ i
/-- the slot's data; an own list is frozen -/
def ocD : OC → D
  | .l xs => .lst xs
  | .k ks vs => .dic ks vs
theorem RepO.data {m : Md} {H : Hp} {a : Addr} {o : HO} {ob : Obj} (e : H a = some o) : ∀ {c : OC}, RepO m H a o c → Rep m (upd H a (.frz ob o)) (.ref a) (ocD c)
  | .l _, ⟨vs, q, r⟩ => by subst q; exact .lst (.inl ⟨ob, upd_same⟩) (r.st (Stable.upd e id))
  | .k _ _, .inl ⟨kvs, q, q2, r⟩ => by subst q; subst q2; exact .dicK upd_same (r.st (Stable.upd e id))
  | .k _ _, .inr ⟨kvs, q, n, q2, r1, r2⟩ => by subst q; exact .dicN upd_same n q2 (r1.st (Stable.upd e id)) (r2.st (Stable.upd e id))
def rdM (i : Nat) : M D := fun ρ => match ρ[i]? with
  | some (.d x) => .ok x ρ
  | some (.cell c) => .ok (ocD c) (ρ.set i (.d (ocD c)))
  | _ => .stuck
theorem de_rd (i : Nat) {x : Str} (hp : pfree G i) (hN : X.N[i]? = some x) (hv : Vis X.env.scope x := by first | exact .inl rfl | exact .inr (.inl rfl) | exact .inr (.inr rfl)) (hd : (x == ("__debug__" : Str)) = false := by decide) (hcd : (x == ("__classdict__" : Str)) = false := by decide) :
    DE X G W (.Name x pos) (rdM i) := pe_imp (pe_fz (pe_var (i := i) hN hv hd hcd)) fun σ H Q ⟨ρ, k, q⟩ => by
  unfold rdM at q
  cases e : ρ[i]? with
  | none => simp only [e] at q; exact q.elim
  | some sl =>
    cases sl with
    | no => simp only [e] at q; exact q.elim
    | exn c => simp only [e] at q; exact q.elim
    | d y =>
      simp only [e] at q
      obtain ⟨v, h1, h2⟩ := k.dat i y e
      exact ⟨v, h1, .inl (q H Stable.rfl k v h2)⟩
    | cell c =>
      simp only [e] at q
      obtain ⟨a, u, h1, h2, h3, h4⟩ := k.own i c e
      refine ⟨_, h1, .inr ⟨a, _, rfl, h2, h3.mt, fun o => ?_⟩⟩
      have st : Stable H (upd H a (.frz o u)) := Stable.upd h2 h3.nf
      have rd := h3.data (ob := o) h2
      exact q _ st (k.frozeC hp e h1 h2 h3 rd) _ rd
/-- the own list in slot i is handed on as a list of its own (a return) -/
def giveM (i : Nat) : M (List D) := bindM (getO i) fun xs => fun ρ => .ok xs (ρ.set i .no)
/-- an operation whose left side is an own list, read -/
def OpO (m : Md) (r : R2) (g : List D → D → Option D) : Prop := ∀ (a : Addr) (vs : List V) (y : V) (xs : List D) (dy d : D) (H : Hp) (Q : VK), H a = some (.lst vs) → RepL m H vs xs → Rep m H y dy → g xs dy = some d → (∀ v H', Grow H H' → Rep m H' v d → Q v H') → r (.ref a) y H Q
def opO (i : Nat) (g : List D → D → Option D) (fb : M D) : M D := bindM fb fun y => bindM (getO i) fun xs => liftM (g xs y)
theorem de_ixO (i : Nat) {x : Str} {r : R2} {g : List D → D → Option D} {fb : M D} {pos' : Pos} (ho : IxR X r) (hr : OpO G.m r g) (hb : DE X G W b fb) (hN : X.N[i]? = some x) (hv : Vis X.env.scope x := by first | exact .inl rfl | exact .inr (.inl rfl) | exact .inr (.inr rfl)) (hs : PlainIx b := by exact fun _ _ => rfl) (hd : (x == ("__debug__" : Str)) = false := by decide) (hcd : (x == ("__classdict__" : Str)) = false := by decide) :
    DE X G W (.Subscript (.Name x pos') b pos) (bindM (getO i) fun _ => opO i g fb) := pe_imp (pe_ix ho (pe_var (i := i) hN hv hd hcd) hb hs) fun σ H Q ⟨ρ, k, q⟩ => by
  obtain ⟨xs0, e0, q⟩ := getO_run q
  obtain ⟨a, vs0, h1, _⟩ := k.ownL i xs0 e0
  refine ⟨_, h1, ρ, k, q.bind.mono fun y ρ1 H1 _ s1 k1 q1 w rw' => ?_⟩
  obtain ⟨xs, e1, q1⟩ := getO_run q1
  obtain ⟨a', vs, g1, g2, g3, _⟩ := k1.ownL i xs e1
  rw [h1] at g1; injection g1 with g1; injection g1 with g1; injection g1 with g1
  subst g1
  obtain ⟨d, e, q3⟩ := q1.lift k1
  exact hr a vs w xs y d H1 Q g2 g3 rw' e fun u H3 g3 r3 => q3 H3 g3.stable (k1.grow g3) u r3
end
end DL
end
section
namespace DL
open PySem PySem.Spec L2
open PyProof.Rows hiding St

/-! ### statements -/
/-- data that may be a container of the def's own -/
def conOf : D → Option OC
  | .lst xs => some (.l xs)
  | .dic ks vs => some (.k ks vs)
  | _ => none
/-- what a def tells: data, a container of its own, a tuple whose last is one -/
inductive RM where
  | f | o | t
abbrev RM.b : RM → Bool
  | .f => false
  | _ => true
def splitT : D → Option (List D × OC)
  | .tup ds => match ds.getLast? with
    | some e => (conOf e).map fun c => (ds.dropLast, c)
    | none => none
  | _ => none
def TupOk (m : Md) (H : Hp) (v : V) (xs : List D) (c : OC) (F : Addr → Prop) : Prop := ∃ t vs b o, v = .ref t ∧ SqT m.K H t (vs ++ [.ref b]) ∧ RepL m H vs xs ∧ H b = some o ∧ RepO m H b o c ∧ F b
def RetOk (rm : RM) (G : Gh) (H : Hp) (v : V) (d : D) : Prop := match rm with
  | .f => Rep G.m H v d
  | .o => match conOf d with
    | some c => ∃ a o, v = .ref a ∧ H a = some o ∧ RepO G.m H a o c ∧ G.H0 a = none ∧ ∀ p ∈ G.pr, p.2 ≠ a
    | none => Rep G.m H v d
  | .t => match splitT d with
    | some z => TupOk G.m H v z.1 z.2 fun b => G.H0 b = none ∧ ∀ p ∈ G.pr, p.2 ≠ b
    | none => False
def postS (G : Gh) (W : WX) (rm : RM) (H : Hp) (r : Res Flow) (E : Ends) : Prop := match r with
  | .ok .nx ρ => ∀ σ' H', Stable H H' → StOk G σ' H' ρ → E.nx σ' H'
  | .ok (.ret d) ρ => ∀ v σ' H', Stable H H' → StOk G σ' H' ρ → RetOk rm G H' v d → E.rt v H'
  | .ok .brk ρ => ∀ σ' H', Stable H H' → StOk G σ' H' ρ → E.bk σ' H'
  | .ok .ct ρ => ∀ σ' H', Stable H H' → StOk G σ' H' ρ → E.ct σ' H'
  | .exc c ρ => ∀ σ' C H', G.m.mg c = some (.ref C) → Stable H H' → StOk G σ' H' ρ → W (.ref C) none σ' H'
  | .stuck => False
def sT (G : Gh) (W : WX) (rm : RM) (f : MS) : TS := fun E σ H => ∃ ρ, StOk G σ H ρ ∧ postS G W rm H (f ρ) E
def DS (X : Cx) (G : Gh) (W : WX) (rm : RM) (st : Stmt) (f : MS) : Prop := PS X st (sT G W rm f)
def DSs (X : Cx) (G : Gh) (W : WX) (rm : RM) (st : List Stmt) (f : MS) : Prop := PSs X st (sT G W rm f)
section
variable {G : Gh} {W : WX} {rm : RM} {σ : L2.St} {H H1 : Hp} {α : Type} {E : Ends}
theorem postS.from {r : Res Flow} (s : Stable H H1) (h : postS G W rm H r E) : postS G W rm H1 r E := by
  cases r with
  | ok f ρ =>
    cases f with
    | nx => exact fun σ' H' s' k => h σ' H' (s.trans s') k
    | ret d => exact fun v σ' H' s' k => h v σ' H' (s.trans s') k
    | brk => exact fun σ' H' s' k => h σ' H' (s.trans s') k
    | ct => exact fun σ' H' s' k => h σ' H' (s.trans s') k
  | exc c ρ => exact fun σ' C H' e s' k => h σ' C H' e (s.trans s') k
  | stuck => exact h
theorem postS.bind {a : M α} {k : α → MS} {ρ : Env} (h : postS G W rm H (bindM a k ρ) E) : postG G W σ H (a ρ) (fun x ρ1 H1 => postS G W rm H1 (k x ρ1) E) := by
  unfold bindM at h
  cases e : a ρ with
  | ok x ρ1 =>
    rw [e] at h
    exact fun H1 s1 _ => postS.from s1 h
  | exc c ρ1 => rw [e] at h; exact fun C H' e s' k => h σ C H' e s' k
  | stuck => rw [e] at h; exact h
end
def seqM (a b : MS) : MS := fun ρ => match a ρ with
  | .ok .nx ρ' => b ρ'
  | r => r
def skipM : MS := fun ρ => .ok .nx ρ
def setM (i : Nat) (f : M D) : MS := bindM f fun d ρ => .ok .nx (ρ.set i (.d d))
def setOM (i : Nat) (f : M (List D)) : MS := bindM f fun ds ρ => .ok .nx (ρ.set i (.own ds))
def dropM (f : M D) : MS := bindM f fun _ ρ => .ok .nx ρ
def retM (f : M D) : MS := bindM f fun d ρ => .ok (.ret d) ρ
def retOM (f : M (List D)) : MS := bindM f fun ds ρ => .ok (.ret (.lst ds)) ρ
def ifM (c : M Bool) (a b : MS) : MS := bindM c fun k => match k with
  | true => a
  | false => b
section
variable {X : Cx} {G : Gh} {W : WX} {rm : RM} {e : Expr} {st : Stmt} {rest : List Stmt} {pos : Pos}
theorem dss_nil : DSs X G W rm [] skipM := pss_imp pss_nil fun E σ H ⟨ρ, k, q⟩ => q σ H Stable.rfl k
theorem dss_cons {f g : MS} (h1 : DS X G W rm st f) (h2 : DSs X G W rm rest g) : DSs X G W rm (st :: rest) (seqM f g) := pss_imp (pss_cons h1 h2) fun E σ H ⟨ρ, k, q⟩ => by
  refine ⟨ρ, k, ?_⟩
  unfold seqM at q
  cases e : f ρ with
  | ok fl ρ1 =>
    rw [e] at q
    cases fl with
    | nx => exact fun σ' H' s' k' => ⟨ρ1, k', postS.from s' q⟩
    | ret d => exact q
    | brk => exact q
    | ct => exact q
  | exc c ρ1 => rw [e] at q; exact q
  | stuck => rw [e] at q; exact q
theorem dss_one {f : MS} (h1 : DS X G W rm st f) : DSs X G W rm [st] f := pss_imp (pss_one h1) fun E σ H h => h
theorem ds_set (i : Nat) {x : Str} {f : M D} {pos' : Pos} (hp : pfree G i) (hN : X.N.Nodup) (hi : X.N[i]? = some x) (hx : Loc X.env.scope x) (he : DE X G W e f) (hs : swapsWith e (some (.Name x pos')) pos.line X.env = pure false := by rfl) (hf : X.fn x = true ∨ X.env.scope.names.lookup x = some .local := by first | exact .inl rfl | exact .inr rfl | assumption) :
    DS X G W rm (.Assign [.Name x pos'] e pos) (setM i f) := ps_imp (ps_set hN hi hx he hs hf) fun E σ H ⟨ρ, k, q⟩ => ⟨ρ, k, q.bind.mono fun d ρ1 H1 _ s1 k1 q1 v r => q1 _ H1 Stable.rfl (k1.setD hp r)⟩
theorem ds_setO (i : Nat) {x : Str} {f : M (List D)} {pos' : Pos} (hp : pfree G i) (hN : X.N.Nodup) (hi : X.N[i]? = some x) (hx : Loc X.env.scope x) (he : DO X G W e f) (hs : swapsWith e (some (.Name x pos')) pos.line X.env = pure false := by rfl) (hf : X.fn x = true ∨ X.env.scope.names.lookup x = some .local := by first | exact .inl rfl | exact .inr rfl | assumption) :
    DS X G W rm (.Assign [.Name x pos'] e pos) (setOM i f) := ps_imp (ps_set hN hi hx he hs hf) fun E σ H ⟨ρ, k, q⟩ => ⟨ρ, k, q.bind.mono fun ds ρ1 H1 _ s1 k1 q1 a vs ha r f => q1 _ H1 Stable.rfl (k1.setO hp ha r f)⟩
theorem ds_expr {f : M D} (he : DE X G W e f) (hs : swapsWith e none pos.line X.env = pure false := by rfl) : DS X G W rm (.Expr e pos) (dropM f) :=
  ps_imp (ps_expr he hs) fun E σ H ⟨ρ, k, q⟩ => ⟨ρ, k, q.bind.mono fun d ρ1 H1 _ s1 k1 q1 v r => q1 _ H1 Stable.rfl k1⟩
theorem ds_ret {f : M D} (he : DE X G W e f) : DS X G W .f (.Return (some e) pos) (retM f) :=
  ps_imp (ps_ret he) fun E σ H ⟨ρ, k, q⟩ => ⟨ρ, k, q.bind.mono fun d ρ1 H1 _ s1 k1 q1 v r => q1 v σ H1 Stable.rfl k1 r⟩
/-- no container, where one may be handed back -/
def retXM (f : M D) : MS := bindM f fun d => match conOf d with
  | some _ => stuckM
  | none => fun ρ => .ok (.ret d) ρ
theorem ds_if {c : Expr} {a b : List Stmt} {t : M Bool} {f g : MS} (hc : DT X G W c t) (ha : DSs X G W rm a f) (hb : DSs X G W rm b g) : DS X G W rm (.If c a b pos) (ifM t f g) :=
  ps_imp (ps_if hc ha hb) fun E σ H ⟨ρ, k, q⟩ => ⟨ρ, k, q.bind.mono fun c ρ1 H1 _ s1 k1 q1 => by
    cases c with
    | true => rw [if_pos rfl]; exact ⟨ρ1, k1, q1⟩
    | false => rw [if_neg (by decide)]; exact ⟨ρ1, k1, q1⟩⟩

/-! ### own lists changed -/
def MtO (m : Md) (r : V → List V → Hp → VK → Prop) (g : List D → List D → Option (D × List D)) : Prop :=
  ∀ (a : Addr) (vs args : List V) (xs ds : List D) (d : D) (ys : List D) (H : Hp) (Q : VK), H a = some (.lst vs) → RepL m H vs xs → RepL m H args ds → g xs ds = some (d, ys) →
    (∀ v ws, RepL m H ws ys → Rep m H v d → Q v (upd H a (.lst ws))) → r (.ref a) args H Q
def mtO (i : Nat) (g : List D → List D → Option (D × List D)) (f : M (List D)) : M D := bindM (getO i) fun _ => bindM f fun ds => bindM (getO i) fun xs => bindM (liftM (g xs ds)) fun z => bindM (putO i z.2) fun _ => pureM z.1
theorem mtO_fin {ρ : Env} {σ : L2.St} {H : Hp} {i : Nat} {g : List D → List D → Option (D × List D)} {r : V → List V → Hp → VK → Prop} {a : Addr} {args : List V} {ds : List D} {Q : VK} (hr : MtO G.m r g) (k : StOk G σ H ρ) (h1 : σ[i]? = some (some (.ref a))) (ra : RepL G.m H args ds)
    (q : postG G W σ H ((bindM (getO i) fun xs => bindM (liftM (g xs ds)) fun z => bindM (putO i z.2) fun _ => pureM z.1) ρ) fun d _ H' => ∀ v, Rep G.m H' v d → Q v H') : r (.ref a) args H Q := by
  obtain ⟨xs, e1, q⟩ := getO_run q
  obtain ⟨a', vs, g1, g2, g3, _⟩ := k.ownL i xs e1
  rw [h1] at g1; injection g1 with g1; injection g1 with g1; injection g1 with g1
  subst g1
  obtain ⟨⟨d, ys⟩, e, q⟩ := q.bind.lift k
  refine hr a vs args xs ds d ys H Q g2 g3 ra e fun v ws rw' rv => ?_
  have st : Stable H (upd H a (.lst ws)) := Stable.upd g2 id
  exact q H Stable.rfl k _ st (k.wrote e1 h1 rw') v (rv.st st)
theorem de_bmO (i : Nat) {x name id : Str} {T idS : String} {r : V → List V → Hp → VK → Prop} {g : List D → List D → Option (D × List D)} {f : M (List D)} {es : List Expr} {pos' apos : Pos} (slot : Slot "list" name idS) (hty : typeOf (.builtin idS) = pure (.type "method_descriptor")) (hm : MtR X idS r) (hr : MtO G.m r g) (ha : DA X G W (e :: es) f)
    (hN : X.N[i]? = some x) (hv : Vis X.env.scope x := by first | exact .inl rfl | exact .inr (.inl rfl) | exact .inr (.inr rfl)) (hd : (x == ("__debug__" : Str)) = false := by decide) (hcd : (x == ("__classdict__" : Str)) = false := by decide)
    (hbase : attributeBase (.Name x pos') name X.env (eval (.Name x pos') X.env) = eval (.Name x pos') X.env := by rfl)
    (hfew : ((backTo pos (starEach (e :: es) X.env)).all (fun x => !x.1) && (backToKw pos (keywordEach [] X.env)).all (fun x => x.1.isSome)
      && decide ((e :: es).length + ([] : List Keyword).length + (if ([] : List Keyword).isEmpty then 0 else 1) < 30)) = true := by rfl)
    (hline : (apos.endLine == pos.line) = true := by rfl) (hs : starEach (e :: es) X.env = (false, eval e X.env) :: starEach es X.env := by rfl) (hplain : (backTo pos (starEach es X.env)).any (·.1) = false := by rfl) :
    DE X G W (.Call (.Attribute (.Name x pos') name apos) (e :: es) [] pos) (mtO i g f) :=
  pe_imp (pe_bm PySem.F.plainAttrs_list slot hty hm (pe_var (i := i) hN hv hd hcd) ha hbase hfew hline hs hplain) fun σ H Q ⟨ρ, k, q⟩ => by
    obtain ⟨xs0, e0, q⟩ := getO_run q
    obtain ⟨a, vs0, h1, h2, _⟩ := k.ownL i xs0 e0
    exact ⟨_, h1, .inl ⟨rfl, _, SqL.of h2⟩, ρ, k, q.bind.mono fun ds ρ1 H1 _ s1 k1 q1 vs rs => mtO_fin hr k1 h1 rs q1⟩
/-- o[k] = e, o an own list -/
def ixSet (xs : List D) (k : D) (d : D) : Option (List D) := match k with
  | .int z => (ixN xs.length z).map fun j => xs.set j d
  | _ => none
def setIM (i : Nat) (fk fe : M D) : MS := bindM fe fun d => bindM (getO i) fun _ => bindM fk fun z => bindM (getO i) fun xs => bindM (liftM (ixSet xs z d)) fun ys => bindM (putO i ys) fun _ => skipM
theorem ds_setI (i : Nat) {x : Str} {k : Expr} {fk fe : M D} {pos' pos2 : Pos} (he : DE X G W e fe) (hk : DE X G W k fk) (hN : X.N[i]? = some x) (hv : Vis X.env.scope x := by first | exact .inl rfl | exact .inr (.inl rfl) | exact .inr (.inr rfl)) (hd : (x == ("__debug__" : Str)) = false := by decide) (hcd : (x == ("__classdict__" : Str)) = false := by decide)
    (ha : ∀ v, assign (.Subscript (.Name x pos') k pos2) X.env v = (do
      let ov ← holding [v] (eval (.Name x pos') X.env)
      let iv ← holding [v, ov] (eval k X.env)
      standAt pos2
      holding [v, ov, iv] (setItem ov iv v)
      release [v, ov, iv] []) := by intro _; rfl)
    (hs : swapsWithSole [.Subscript (.Name x pos') k pos2] e pos.line X.env = pure false := by rfl) (hw : swappedStores [.Subscript (.Name x pos') k pos2] e X.env = pure none := by rfl)
    (h1 : (assignEach [.Subscript (.Name x pos') k pos2] X.env).map (·.2) = [assign (.Subscript (.Name x pos') k pos2) X.env] := by rfl) :
    DS X G W rm (.Assign [.Subscript (.Name x pos') k pos2] e pos) (setIM i fk fe) :=
  ps_imp (ps_asg he (pg_sub (pe_var (i := i) hN hv hd hcd) hk set_list ha) hs hw h1) fun E σ H ⟨ρ, st, q⟩ => ⟨ρ, st, q.bind.mono fun d ρ1 H1 _ s1 k1 q1 v rv => by
    have q1 := q1.bind (σ := σ)
    cases e0 : getO i ρ1 with
    | stuck => rw [e0] at q1; exact q1.elim
    | exc c ρ' =>
      unfold getO at e0
      split at e0 <;> cases e0
    | ok xs0 ρ' =>
      have eq : ρ' = ρ1 ∧ ρ1[i]? = some (.own xs0) := by
        unfold getO at e0
        split at e0
        · rename_i ys h; cases e0; exact ⟨rfl, h⟩
        · cases e0
      obtain ⟨rfl, e0'⟩ := eq
      rw [e0] at q1
      have q1 := q1 H1 Stable.rfl k1
      obtain ⟨a, vs0, g1, g2, _⟩ := k1.ownL i xs0 e0'
      refine ⟨_, g1, ρ', k1, q1.bind.mono fun z ρ2 H2 _ s2 k2 q2 zv rz => ?_⟩
      have q2 := q2.bind (σ := σ)
      cases e2 : getO i ρ2 with
      | stuck => rw [e2] at q2; exact q2.elim
      | exc c ρ' =>
        unfold getO at e2
        split at e2 <;> cases e2
      | ok xs ρ'' =>
        have eq : ρ'' = ρ2 ∧ ρ2[i]? = some (.own xs) := by
          unfold getO at e2
          split at e2
          · rename_i ys h; cases e2; exact ⟨rfl, h⟩
          · cases e2
        obtain ⟨rfl, e2'⟩ := eq
        rw [e2] at q2
        have q2 := q2 H2 Stable.rfl k2
        obtain ⟨a', vs, w1, w2, w3, _⟩ := k2.ownL i xs e2'
        rw [g1] at w1; injection w1 with w1; injection w1 with w1; injection w1 with w1
        subst w1
        obtain ⟨ys, e3, q3⟩ := (q2.bind (σ := σ)).lift k2
        cases z with
        | int iz =>
          cases rz
          have e3 : (ixN xs.length iz).map (fun j => xs.set j d) = some ys := e3
          cases e4 : ixN xs.length iz with
          | none => rw [e4] at e3; cases e3
          | some j =>
            rw [e4] at e3
            have e3 : ys = xs.set j d := by cases e3; rfl
            subst e3
            refine ⟨a, vs, iz, j, rfl, rfl, w2, by rw [w3.len]; exact e4, ?_⟩
            have st2 : Stable H2 (upd H2 a (.lst (vs.set j v))) := Stable.upd w2 id
            exact q3 H2 Stable.rfl k2 _ _ st2 (k2.wrote e2' g1 ((w3.set (rv.st s2) j)))
        | _ => cases e3⟩
end
end DL
end
section
namespace DL
open PySem PySem.Spec L2
open PyProof.Rows hiding St

/-! ### defs -/
inductive FRes where
  | ok (d : D) (os : List OC) | exc (c : Str) (os : List OC) | stuck
abbrev Fn := List Sl → FRes
def isOwn : Sl → Bool
  | .cell _ => true
  | _ => false
/-- the by-reference parameters' new contents -/
def replOwn : Env → List OC → Env
  | [], _ => []
  | .cell _ :: ρ, o :: os => .cell o :: replOwn ρ os
  | .cell x :: ρ, [] => .cell x :: replOwn ρ []
  | s :: ρ, os => s :: replOwn ρ os
def collect : Env → Env → List OC
  | .cell _ :: a, .cell x :: b => x :: collect a b
  | _ :: a, _ :: b => collect a b
  | _, _ => []
structure ArgOk (m : Md) (ex : Option (Addr × Str)) (vs : List V) (H : Hp) (ρ : Env) : Prop where
  len : vs.length = ρ.length
  dat : ∀ (i : Nat) (x : D), ρ[i]? = some (.d x) → ∃ v, vs[i]? = some v ∧ Rep m H v x
  own : ∀ (i : Nat) (xs : OC), ρ[i]? = some (.cell xs) → ∃ a ws, vs[i]? = some (.ref a) ∧ H a = some ws ∧ RepO m H a ws xs
  sep : ∀ (i j : Nat) (xs ys : OC) (a : Addr), i ≠ j → ρ[i]? = some (.cell xs) → ρ[j]? = some (.cell ys) → vs[i]? = some (.ref a) → vs[j]? ≠ some (.ref a)
  exn : ∀ (i : Nat) (c : Str), ρ[i]? = some (.exn c) → ∃ a, ex = some (a, c) ∧ vs[i]? = some (.ref a)
def Keeps (vs : List V) (ρ : Env) (H H' : Hp) : Prop := ∀ a o, H a = some o → (∀ (i : Nat) (xs : OC), ρ[i]? = some (.cell xs) → vs[i]? ≠ some (.ref a)) → H' a = some o
def RetF (rm : RM) (m : Md) (H H' : Hp) (v : V) (d : D) : Prop := match rm with
  | .f => Rep m H' v d
  | .o => match conOf d with
    | some c => ∃ a o, v = .ref a ∧ H' a = some o ∧ RepO m H' a o c ∧ H a = none
    | none => Rep m H' v d
  | .t => match splitT d with
    | some z => TupOk m H' v z.1 z.2 fun b => H b = none
    | none => False
def postF (m : Md) (ex : Option (Addr × Str)) (rm : RM) (vs : List V) (ρ : Env) (H : Hp) (r : FRes) (Q : VK) (E : XK) : Prop := match r with
  | .ok d os => ∀ v H', Keeps vs ρ H H' → Stable H H' → ArgOk m ex vs H' (replOwn ρ os) → RetF rm m H H' v d → Q v H'
  | .exc c os => ∀ C H', m.mg c = some (.ref C) → Keeps vs ρ H H' → Stable H H' → ArgOk m ex vs H' (replOwn ρ os) → E (.ref C) none H'
  | .stuck => False
/-- the promise of a def: it computes f. md: which parameters are by reference; rm: a list of its own is handed back -/
def spD (m : Md) (ex : Option (Addr × Str)) (md : List Bool) (rm : RM) (f : Fn) : Sp := fun vs H Q E => ∃ ρ, ρ.map isOwn = md ∧ ArgOk m ex vs H ρ ∧ postF m ex rm vs ρ H (f ρ) Q E

/-! ### a body -/
def prOf : List V → Env → Nat → List (Nat × Addr)
  | .ref a :: vs, .cell _ :: ρ, i => (i, a) :: prOf vs ρ (i + 1)
  | _ :: vs, _ :: ρ, i => prOf vs ρ (i + 1)
  | _, _, _ => []
theorem mem_prOf : ∀ {vs : List V} {ρ : Env} {i : Nat} {p : Nat × Addr}, p ∈ prOf vs ρ i → ∃ j, p.1 = i + j ∧ vs[j]? = some (.ref p.2) ∧ ∃ xs, ρ[j]? = some (.cell xs)
  | [], ρ, i, p, h => by cases ρ <;> simp [prOf] at h
  | v :: vs, [], i, p, h => by cases v <;> simp [prOf] at h
  | v :: vs, s :: ρ, i, p, h => by
    have tl : p ∈ prOf vs ρ (i + 1) → ∃ j, p.1 = i + j ∧ (v :: vs)[j]? = some (.ref p.2) ∧ ∃ xs, (s :: ρ)[j]? = some (.cell xs) := fun h => by
      obtain ⟨j, e, h1, h2⟩ := mem_prOf h
      exact ⟨j + 1, by omega, by simpa using h1, by simpa using h2⟩
    cases v with
    | ref a =>
      cases s with
      | cell xs =>
        simp only [prOf, List.mem_cons] at h
        rcases h with h | h
        · subst h; exact ⟨0, rfl, rfl, xs, rfl⟩
        · exact tl h
      | _ => exact tl (by simpa [prOf] using h)
    | _ => exact tl (by cases s <;> simpa [prOf] using h)
theorem prOf_mem : ∀ {vs : List V} {ρ : Env} {i j : Nat} {a : Addr} {xs : OC}, vs[j]? = some (.ref a) → ρ[j]? = some (.cell xs) → (i + j, a) ∈ prOf vs ρ i
  | [], ρ, i, j, a, xs, h, _ => by simp at h
  | v :: vs, [], i, j, a, xs, _, h => by simp at h
  | v :: vs, s :: ρ, i, 0, a, xs, h1, h2 => by
    simp at h1 h2
    subst h1; subst h2
    simp [prOf]
  | v :: vs, s :: ρ, i, j + 1, a, xs, h1, h2 => by
    have q := prOf_mem (i := i + 1) (j := j) (by simpa using h1) (by simpa using h2)
    rw [show i + 1 + j = i + (j + 1) by omega] at q
    cases v with
    | ref b =>
      cases s with
      | cell ys => simp only [prOf, List.mem_cons]; exact .inr q
      | _ => simpa [prOf] using q
    | _ => cases s <;> simpa [prOf] using q
def ghOf (m : Md) (ex : Option (Addr × Str)) (vs : List V) (ρ : Env) (H : Hp) : Gh := ⟨m, H, prOf vs ρ 0, ex⟩
theorem pfree_of {m : Md} {ex : Option (Addr × Str)} {vs : List V} {ρ : Env} {H : Hp} {md : List Bool} (h : ρ.map isOwn = md) (i : Nat) (hi : md.getD i false = false) : pfree (ghOf m ex vs ρ H) i := fun p hp e => by
  obtain ⟨j, e1, _, xs, h2⟩ := mem_prOf hp
  have e2 : j = i := by omega
  subst e2
  rw [← h] at hi
  rw [List.getD_eq_getElem?_getD, List.getElem?_map, h2] at hi
  simp [isOwn] at hi
theorem start_ok {m : Md} {ex : Option (Addr × Str)} {vs : List V} {ρ : Env} {H : Hp} {n : Nat} (a : ArgOk m ex vs H ρ) : StOk (ghOf m ex vs ρ H) (vs.map some ++ List.replicate n none) H (ρ ++ List.replicate n .no) := by
  have low : ∀ (i : Nat) (s : Sl), s ≠ .no → (ρ ++ List.replicate n Sl.no)[i]? = some s → ρ[i]? = some s := fun i s hs h => by
    by_cases hi : i < ρ.length
    · rw [List.getElem?_append_left hi] at h; exact h
    · rw [List.getElem?_append_right (by omega), List.getElem?_replicate] at h
      split at h
      · cases h; exact absurd rfl hs
      · cases h
  have lv : ∀ (i : Nat) (v : V), vs[i]? = some v → (vs.map some ++ List.replicate n none)[i]? = some (some v) := fun i v h => by
    have hi : i < vs.length := (List.getElem?_eq_some_iff.mp h).1
    rw [List.getElem?_append_left (by simpa using hi), List.getElem?_map, h]; rfl
  have vl : ∀ (i : Nat) (v : V), (vs.map some ++ List.replicate n none)[i]? = some (some v) → vs[i]? = some v := fun i v h => by
    by_cases hi : i < vs.length
    · rw [List.getElem?_append_left (by simpa using hi), List.getElem?_map] at h
      cases e : vs[i]? with
      | none => rw [e] at h; cases h
      | some w => rw [e] at h; simp at h; rw [h]
    · rw [List.getElem?_append_right (by simpa using hi), List.getElem?_replicate] at h
      split at h <;> cases h
  refine ⟨by simp [a.len], fun i x h => ?_, fun i xs h => ?_, fun i j xs ys b ne h1 h2 h3 h4 => ?_, fun p hp => ?_, fun b o h _ => h, fun i c h => ?_⟩
  · obtain ⟨v, h1, h2⟩ := a.dat i x (low i _ (fun z => by cases z) h)
    exact ⟨v, lv i v h1, h2⟩
  · have h' := low i _ (fun z => by cases z) h
    obtain ⟨b, ws, h1, h2, h3⟩ := a.own i xs h'
    refine ⟨b, ws, lv i _ h1, h2, h3, fun hno => ?_⟩
    exact absurd rfl (hno (i, b) (show (i, b) ∈ prOf vs ρ 0 by simpa using prOf_mem (i := 0) h1 h'))
  · exact a.sep i j xs ys b ne (low i _ (fun z => by cases z) h1) (low j _ (fun z => by cases z) h2) (vl i _ h3) (vl j _ h4)
  · obtain ⟨j, e, h1, xs, h2⟩ := mem_prOf hp
    have e : p.1 = j := by omega
    rw [e]
    refine ⟨lv j _ h1, xs, ?_⟩
    have hj : j < ρ.length := (List.getElem?_eq_some_iff.mp h2).1
    rw [List.getElem?_append_left hj]; exact h2
  · obtain ⟨b, h1, h2⟩ := a.exn i c (low i _ (fun z => by cases z) h)
    exact ⟨b, h1, lv i _ h2⟩
theorem replOwn_len : ∀ (ρ : Env) (os : List OC), (replOwn ρ os).length = ρ.length
  | [], _ => rfl
  | s :: ρ, os => by
    cases s with
    | cell x => cases os <;> simp [replOwn, replOwn_len]
    | _ => simp [replOwn, replOwn_len]
/-- what stands at i behind collect and replOwn -/
theorem replOwn_collect : ∀ (ρ ρ' : Env) (i : Nat), (∀ j, isOwn (ρ.getD j .no) = true → isOwn (ρ'.getD j .no) = true) →
    (∀ xs, ρ[i]? = some (.cell xs) → (replOwn ρ (collect ρ ρ'))[i]? = ρ'[i]?) ∧ (∀ s, isOwn s = false → ρ[i]? = some s → (replOwn ρ (collect ρ ρ'))[i]? = some s)
  | [], ρ', i, h => ⟨fun xs e => by simp at e, fun s _ e => by simp at e⟩
  | s :: ρ, [], i, h => by
    have none : ∀ (l : Env), (∀ j, isOwn (l.getD j .no) = true → isOwn (([] : Env).getD j .no) = true) → ∀ t ∈ l, isOwn t = false := fun l hl t ht => by
      obtain ⟨j, hj, e⟩ := List.mem_iff_getElem.mp ht
      cases q : isOwn t with
      | false => rfl
      | true =>
        have z := hl j (by rw [List.getD_eq_getElem?_getD, List.getElem?_eq_getElem hj, e]; exact q)
        simp [isOwn] at z
    have all := none (s :: ρ) h
    have same : ∀ (l : Env), (∀ t ∈ l, isOwn t = false) → replOwn l [] = l := by
      intro l
      induction l with
      | nil => intro _; rfl
      | cons t l ih =>
        intro hl
        have ht := hl t List.mem_cons_self
        have := ih fun u hu => hl u (List.mem_cons_of_mem _ hu)
        cases t <;> first | (simp [replOwn, this]; done) | (simp [isOwn] at ht)
    have ce : collect (s :: ρ) [] = [] := by cases s <;> rfl
    rw [ce, same _ all]
    refine ⟨fun xs e => ?_, fun t _ e => e⟩
    have := all _ (List.mem_of_getElem? e)
    simp [isOwn] at this
  | s :: ρ, s' :: ρ', i, h => by
    have ht : ∀ j, isOwn (ρ.getD j .no) = true → isOwn (ρ'.getD j .no) = true := fun j hj => by simpa using h (j + 1) (by simpa using hj)
    have h0 : isOwn s = true → isOwn s' = true := by simpa using h 0
    have ih := replOwn_collect ρ ρ'
    cases s with
    | cell x =>
      cases s' with
      | cell y =>
        have e : replOwn (.cell x :: ρ) (collect (.cell x :: ρ) (.cell y :: ρ')) = .cell y :: replOwn ρ (collect ρ ρ') := rfl
        rw [e]
        cases i with
        | zero => exact ⟨fun xs _ => rfl, fun t ht e => by simp at e; subst e; simp [isOwn] at ht⟩
        | succ i => simpa using ih i ht
      | _ => simp [isOwn] at h0
    | no =>
      have e : replOwn (.no :: ρ) (collect (.no :: ρ) (s' :: ρ')) = .no :: replOwn ρ (collect ρ ρ') := by cases s' <;> rfl
      rw [e]
      cases i with
      | zero => exact ⟨fun xs e => by simp at e, fun t _ e => by simpa using e⟩
      | succ i => simpa using ih i ht
    | d x =>
      have e : replOwn (.d x :: ρ) (collect (.d x :: ρ) (s' :: ρ')) = .d x :: replOwn ρ (collect ρ ρ') := by cases s' <;> rfl
      rw [e]
      cases i with
      | zero => exact ⟨fun xs e => by simp at e, fun t _ e => by simpa using e⟩
      | succ i => simpa using ih i ht
    | exn x =>
      have e : replOwn (.exn x :: ρ) (collect (.exn x :: ρ) (s' :: ρ')) = .exn x :: replOwn ρ (collect ρ ρ') := by cases s' <;> rfl
      rw [e]
      cases i with
      | zero => exact ⟨fun xs e => by simp at e, fun t _ e => by simpa using e⟩
      | succ i => simpa using ih i ht
/-- behind the body: the parameters -/
theorem end_ok {m : Md} {ex : Option (Addr × Str)} {vs : List V} {ρ ρ' : Env} {H H' : Hp} {σ' : L2.St} (a : ArgOk m ex vs H ρ) (st : Stable H H') (k : StOk (ghOf m ex vs ρ H) σ' H' ρ') :
    Keeps vs ρ H H' ∧ ArgOk m ex vs H' (replOwn ρ (collect ρ ρ')) := by
  have at_ : ∀ (i : Nat) (xs : OC), ρ[i]? = some (.cell xs) → ∃ b ys ws, vs[i]? = some (.ref b) ∧ σ'[i]? = some (some (.ref b)) ∧ ρ'[i]? = some (.cell ys) ∧ H' b = some ws ∧ RepO m H' b ws ys := fun i xs h => by
    obtain ⟨b, ws0, h1, h2, h3⟩ := a.own i xs h
    have hp : (i, b) ∈ (ghOf m ex vs ρ H).pr := show (i, b) ∈ prOf vs ρ 0 by simpa using prOf_mem (i := 0) h1 h
    obtain ⟨q1, ys, q2⟩ := k.prot _ hp
    obtain ⟨b', ws, q3, q4, q5, _⟩ := k.own i ys q2
    have q1 : σ'[i]? = some (some (.ref b)) := q1
    rw [q1] at q3; injection q3 with q3; injection q3 with q3; injection q3 with q3
    subst q3
    exact ⟨b, ys, ws, h1, q1, q2, q4, q5⟩
  refine ⟨fun b o h1 h2 => k.keep b o h1 fun p hp e => ?_, ?_⟩
  · obtain ⟨j, e1, e2, xs, e3⟩ := mem_prOf hp
    rw [e] at e2
    exact h2 j xs e3 e2
  · have mono : ∀ j, isOwn (ρ.getD j .no) = true → isOwn (ρ'.getD j .no) = true := fun j hj => by
      rw [List.getD_eq_getElem?_getD] at hj ⊢
      cases e : ρ[j]? with
      | none => rw [e] at hj; simp [isOwn] at hj
      | some s =>
        rw [e] at hj
        cases s with
        | cell xs =>
          obtain ⟨b, ys, ws, _, _, h3, _⟩ := at_ j xs e
          rw [h3]; rfl
        | _ => simp [isOwn] at hj
    have rc := fun i => replOwn_collect ρ ρ' i mono
    have inv : ∀ (i : Nat) (s : Sl), (replOwn ρ (collect ρ ρ'))[i]? = some s → (isOwn s = false ∧ ρ[i]? = some s) ∨ ∃ xs ys, s = .cell ys ∧ ρ[i]? = some (.cell xs) ∧ ρ'[i]? = some (.cell ys) := fun i s h => by
      have hi : i < ρ.length := by rw [← replOwn_len ρ (collect ρ ρ')]; exact (List.getElem?_eq_some_iff.mp h).1
      obtain ⟨t, ht⟩ : ∃ t, ρ[i]? = some t := ⟨_, List.getElem?_eq_getElem hi⟩
      cases q : isOwn t with
      | false =>
        have := (rc i).2 t q ht
        rw [this] at h; cases h
        exact .inl ⟨q, ht⟩
      | true =>
        cases t with
        | cell xs =>
          obtain ⟨b, ys, ws, h1, h2, h3, _⟩ := at_ i xs ht
          rw [(rc i).1 xs ht, h3] at h; cases h
          exact .inr ⟨xs, ys, rfl, ht, h3⟩
        | _ => simp [isOwn] at q
    refine ⟨by rw [replOwn_len]; exact a.len, fun i x h => ?_, fun i xs h => ?_, fun i j xs ys b ne h1 h2 => ?_, fun i c h => ?_⟩
    · rcases inv i _ h with ⟨_, h⟩ | ⟨_, _, e, _⟩
      · obtain ⟨v, h1, h2⟩ := a.dat i x h
        exact ⟨v, h1, h2.st st⟩
      · cases e
    · rcases inv i _ h with ⟨e, _⟩ | ⟨ys, zs, e, h1, h2⟩
      · simp [isOwn] at e
      · cases e
        obtain ⟨b, us, ws, g1, g2, g3, g4, g5⟩ := at_ i ys h1
        rw [h2] at g3; cases g3
        exact ⟨b, ws, g1, g4, g5⟩
    · rcases inv i _ h1 with ⟨e, _⟩ | ⟨us, zs, e, g1, g2⟩
      · simp [isOwn] at e
      rcases inv j _ h2 with ⟨e, _⟩ | ⟨us', zs', e', g1', g2'⟩
      · simp [isOwn] at e
      exact a.sep i j us us' b ne g1 g1'
    · rcases inv i _ h with ⟨_, h⟩ | ⟨_, _, e, _⟩
      · exact a.exn i c h
      · cases e
/-- the def's function: n slots in all -/
def fnM (rm : Bool) (n : Nat) (body : MS) : Fn := fun ρ => match body (ρ ++ List.replicate (n - ρ.length) .no) with
  | .ok .nx ρ' => if rm = true then .stuck else .ok .non (collect ρ ρ')
  | .ok (.ret d) ρ' => .ok d (collect ρ ρ')
  | .exc c ρ' => .exc c (collect ρ ρ')
  | _ => .stuck
theorem body_ok {m : Md} {ex : Option (Addr × Str)} {rm : RM} {n : Nat} {body : MS} {vs : List V} {ρ : Env} {H : Hp} {Q : VK} {E : XK} {W : WX} (hW : ∀ cls d σ H, E cls d H → W cls d σ H) 
    (a : ArgOk m ex vs H ρ) (h : postF m ex rm vs ρ H (fnM rm.b n body ρ) Q E) :
    sT (ghOf m ex vs ρ H) W rm body { nx := fun _ H' => Q .non H', rt := Q } (vs.map some ++ List.replicate (n - vs.length) none) H := by
  refine ⟨ρ ++ List.replicate (n - ρ.length) .no, by rw [a.len]; exact start_ok a, ?_⟩
  unfold fnM at h
  cases e : body (ρ ++ List.replicate (n - ρ.length) .no) with
  | ok fl ρ' =>
    rw [e] at h
    cases fl with
    | nx =>
      intro σ' H' s k
      obtain ⟨k1, k2⟩ := end_ok a s k
      cases rm with
      | f => exact h .non H' k1 s k2 .non
      | o => exact h.elim
      | t => exact h.elim
    | ret d =>
      intro v σ' H' s k r
      obtain ⟨k1, k2⟩ := end_ok a s k
      refine h v H' k1 s k2 ?_
      cases rm with
      | f => exact r
      | t =>
        unfold RetOk at r
        unfold RetF
        cases u : splitT d with
        | none => simp only [u] at r
        | some z =>
          simp only [u] at r ⊢
          obtain ⟨t, us, b, o, r1, r2, r3, r4, r5, r6⟩ := r
          exact ⟨t, us, b, o, r1, r2, r3, r4, r5, r6.1⟩
      | o =>
        unfold RetOk at r
        unfold RetF
        cases c : conOf d with
        | none => simp only [c] at r ⊢; exact r
        | some c' =>
          simp only [c] at r ⊢
          obtain ⟨b, o, r1, r2, r3, r4, r5⟩ := r
          exact ⟨b, o, r1, r2, r3, r4⟩
    | brk => exact h.elim
    | ct => exact h.elim
  | exc c ρ' =>
    rw [e] at h
    intro σ' C H' e s k
    obtain ⟨k1, k2⟩ := end_ok a s k
    exact hW _ _ _ _ (h C H' e k1 s k2)
  | stuck => rw [e] at h; exact h.elim
/-- THE RULE for a def -/
theorem fn_ok {P : Program} {w : World} {K : PySem.W.Frag} {mg : Str → Option Value} {base : Heap} {k : Nat} {f : Addr} {fd : FuncData} {N ps : List Str} {x qual : Str} {params : Arguments} {body : List Stmt} {scope : Scope} {md : List Bool} {rm : RM} {bm : MS}
    (F : FunD K x qual params body scope [] [] f fd) (S : FnScope N ps scope) (hmd : md.length = ps.length)
    (D : ∀ (cdv : Value) (A : Around) (outer : List PySem.Env) (s : Shared) (H : Hp) (E : XK) (H0 : Hp) (pr : List (Nat × Addr)), (∀ i, md.getD i false = false → pfree ⟨⟨K, mg, w⟩, H0, pr, none⟩ i) → Room k (A.deeper (envOfC qual scope s.heap.objs.size f cdv)) →
      Takes (cxOf (L2.CX P w) P w K mg base N qual scope f cdv A outer s H E) (fun cls d _ H => E cls d H) → DSs (cxOf (L2.CX P w) P w K mg base N qual scope f cdv A outer s H E) ⟨⟨K, mg, w⟩, H0, pr, none⟩ (fun cls d _ H => E cls d H) rm body bm) :
    FnOk P w K mg base (L2.CX P w) (k + 1) f fd ps (spD ⟨K, mg, w⟩ none md rm (fnM rm.b N.length bm)) := by
  refine F.ok S (fun vs H Q E h => ?_) (fun cdv A outer s H vs Q E hr h => ?_)
  · obtain ⟨ρ, h1, h2, _⟩ := h
    rw [h2.len, ← hmd, ← h1, List.length_map]
  · obtain ⟨ρ, h1, h2, h3⟩ := h
    exact ⟨_, D cdv A outer s H E H (prOf vs ρ 0) (fun i hi => pfree_of (m := ⟨K, mg, w⟩) (ex := none) (H := H) h1 i hi) hr (takes_of rfl rfl rfl rfl), body_ok (fun _ _ _ _ z => z) h2 h3⟩
/-! ### calls of defs -/
inductive Ag where
  | d (x : D) | sl (i : Nat) | tmp (c : OC)
def toSl (ρ : Env) : Ag → Sl
  | .d x => .d x
  | .sl i => ρ.getD i .no
  | .tmp c => .cell c
def slots : List Ag → List Nat
  | [] => []
  | .d _ :: r => slots r
  | .sl i :: r => i :: slots r
  | .tmp _ :: r => slots r
def putBack : List Ag → List OC → Env → Env
  | [], _, ρ => ρ
  | .d _ :: r, os, ρ => putBack r os ρ
  | .tmp _ :: r, os, ρ => putBack r (os.drop 1) ρ
  | .sl i :: r, os, ρ => match ρ.getD i .no, os with
    | .cell _, o :: os' => putBack r os' (ρ.set i (.cell o))
    | _, os => putBack r os ρ
inductive AgOk (m : Md) (σ : L2.St) (H : Hp) : List V → List Ag → Prop
  | nil : AgOk m σ H [] []
  | d {v : V} {vs : List V} {x : D} {ags : List Ag} : Rep m H v x → AgOk m σ H vs ags → AgOk m σ H (v :: vs) (.d x :: ags)
  | sl {v : V} {vs : List V} {i : Nat} {ags : List Ag} : σ[i]? = some (some v) → AgOk m σ H vs ags → AgOk m σ H (v :: vs) (.sl i :: ags)
  | tmp {a : Addr} {vs : List V} {o : HO} {c : OC} {ags : List Ag} : H a = some o → RepO m H a o c → AgOk m σ H vs ags → AgOk m σ H (.ref a :: vs) (.tmp c :: ags)
theorem AgOk.len {m : Md} {σ : L2.St} {H : Hp} : ∀ {vs : List V} {ags : List Ag}, AgOk m σ H vs ags → vs.length = ags.length
  | _, _, .nil => rfl
  | _, _, .d _ k => by simp [AgOk.len k]
  | _, _, .sl _ k => by simp [AgOk.len k]
  | _, _, .tmp _ _ k => by simp [AgOk.len k]
theorem AgOk.atD {m : Md} {σ : L2.St} {H : Hp} : ∀ {vs : List V} {ags : List Ag} {p : Nat} {x : D}, AgOk m σ H vs ags → ags[p]? = some (.d x) → ∃ v, vs[p]? = some v ∧ Rep m H v x
  | _, _, p, x, .nil, h => by simp at h
  | _, _, 0, x, .d r _, h => by simp at h; subst h; exact ⟨_, rfl, r⟩
  | _, _, p + 1, x, .d _ k, h => by obtain ⟨v, h1, h2⟩ := AgOk.atD (p := p) (x := x) k (by simpa using h); exact ⟨v, by simpa using h1, h2⟩
  | _, _, 0, x, .sl _ _, h => by simp at h
  | _, _, p + 1, x, .sl _ k, h => by obtain ⟨v, h1, h2⟩ := AgOk.atD (p := p) (x := x) k (by simpa using h); exact ⟨v, by simpa using h1, h2⟩
  | _, _, 0, x, .tmp _ _ _, h => by simp at h
  | _, _, p + 1, x, .tmp _ _ k, h => by obtain ⟨v, h1, h2⟩ := AgOk.atD (p := p) (x := x) k (by simpa using h); exact ⟨v, by simpa using h1, h2⟩
theorem AgOk.atS {m : Md} {σ : L2.St} {H : Hp} : ∀ {vs : List V} {ags : List Ag} {p i : Nat}, AgOk m σ H vs ags → ags[p]? = some (.sl i) → ∃ v, vs[p]? = some v ∧ σ[i]? = some (some v)
  | _, _, p, x, .nil, h => by simp at h
  | _, _, 0, x, .sl r _, h => by simp at h; subst h; exact ⟨_, rfl, r⟩
  | _, _, p + 1, x, .d _ k, h => by obtain ⟨v, h1, h2⟩ := AgOk.atS (p := p) (i := x) k (by simpa using h); exact ⟨v, by simpa using h1, h2⟩
  | _, _, 0, x, .d _ _, h => by simp at h
  | _, _, p + 1, x, .sl _ k, h => by obtain ⟨v, h1, h2⟩ := AgOk.atS (p := p) (i := x) k (by simpa using h); exact ⟨v, by simpa using h1, h2⟩
  | _, _, 0, x, .tmp _ _ _, h => by simp at h
  | _, _, p + 1, x, .tmp _ _ k, h => by obtain ⟨v, h1, h2⟩ := AgOk.atS (p := p) (i := x) k (by simpa using h); exact ⟨v, by simpa using h1, h2⟩
theorem AgOk.atT {m : Md} {σ : L2.St} {H : Hp} : ∀ {vs : List V} {ags : List Ag} {p : Nat} {c : OC}, AgOk m σ H vs ags → ags[p]? = some (.tmp c) → ∃ a o, vs[p]? = some (.ref a) ∧ H a = some o ∧ RepO m H a o c
  | _, _, p, x, .nil, h => by simp at h
  | _, _, 0, x, .d _ _, h => by simp at h
  | _, _, p + 1, x, .d _ k, h => by obtain ⟨a, o, h1, h2⟩ := AgOk.atT (p := p) (c := x) k (by simpa using h); exact ⟨a, o, by simpa using h1, h2⟩
  | _, _, 0, x, .sl _ _, h => by simp at h
  | _, _, p + 1, x, .sl _ k, h => by obtain ⟨a, o, h1, h2⟩ := AgOk.atT (p := p) (c := x) k (by simpa using h); exact ⟨a, o, by simpa using h1, h2⟩
  | _, _, 0, x, .tmp e r _, h => by simp at h; subst h; exact ⟨_, _, rfl, e, r⟩
  | _, _, p + 1, x, .tmp _ _ k, h => by obtain ⟨a, o, h1, h2⟩ := AgOk.atT (p := p) (c := x) k (by simpa using h); exact ⟨a, o, by simpa using h1, h2⟩
/-- temporary containers stand apart -/
def FrAg (G : Gh) (σ : L2.St) (ρ : Env) (vs : List V) (ags : List Ag) : Prop := (∀ (p : Nat) (c : OC) (a : Addr), ags[p]? = some (.tmp c) → vs[p]? = some (.ref a) → Fresh G σ ρ a) ∧
  ∀ (p q : Nat) (c c' : OC) (a : Addr), p ≠ q → ags[p]? = some (.tmp c) → ags[q]? = some (.tmp c') → vs[p]? = some (.ref a) → vs[q]? ≠ some (.ref a)
theorem FrAg.nil {G : Gh} {σ : L2.St} {ρ : Env} : FrAg G σ ρ [] [] := ⟨fun p c a h => by simp at h, fun p q c c' a _ h => by simp at h⟩
theorem FrAg.cons {G : Gh} {σ : L2.St} {ρ : Env} {v : V} {vs : List V} {g : Ag} {ags : List Ag} (hg : ∀ c, g ≠ .tmp c) (f : FrAg G σ ρ vs ags) : FrAg G σ ρ (v :: vs) (g :: ags) := by
  refine ⟨fun p c a h1 h2 => ?_, fun p q c c' a ne h1 h2 h3 => ?_⟩
  · cases p with
    | zero => simp at h1; exact absurd h1 (hg c)
    | succ p => exact f.1 p c a (by simpa using h1) (by simpa using h2)
  · cases p with
    | zero => simp at h1; exact absurd h1 (hg c)
    | succ p =>
      cases q with
      | zero => simp at h2; exact absurd h2 (hg c')
      | succ q => simpa using f.2 p q c c' a (by omega) (by simpa using h1) (by simpa using h2) (by simpa using h3)
theorem FrAg.tmp {G : Gh} {σ : L2.St} {ρ : Env} {b : Addr} {vs : List V} {c0 : OC} {ags : List Ag} (fb : Fresh G σ ρ b) (hn : ∀ (p : Nat) (c : OC), ags[p]? = some (.tmp c) → vs[p]? ≠ some (.ref b)) (f : FrAg G σ ρ vs ags) : FrAg G σ ρ (.ref b :: vs) (.tmp c0 :: ags) := by
  refine ⟨fun p c a h1 h2 => ?_, fun p q c c' a ne h1 h2 h3 => ?_⟩
  · cases p with
    | zero => simp at h2; subst h2; exact fb
    | succ p => exact f.1 p c a (by simpa using h1) (by simpa using h2)
  · cases p with
    | zero =>
      cases q with
      | zero => exact absurd rfl ne
      | succ q => simp at h3; subst h3; simpa using hn q c' (by simpa using h2)
    | succ p =>
      cases q with
      | zero => simp; intro z; subst z; exact hn p c (by simpa using h1) (by simpa using h3)
      | succ q => simpa using f.2 p q c c' a (by omega) (by simpa using h1) (by simpa using h2) (by simpa using h3)
theorem slots_mem : ∀ {ags : List Ag} {p i : Nat}, ags[p]? = some (.sl i) → i ∈ slots ags
  | [], p, i, h => by simp at h
  | a :: r, 0, i, h => by simp at h; subst h; simp [slots]
  | a :: r, p + 1, i, h => by
    have := slots_mem (p := p) (i := i) (ags := r) (by simpa using h)
    cases a <;> simp [slots, this]
theorem slots_inj : ∀ {ags : List Ag} {p q i : Nat}, (slots ags).Nodup → ags[p]? = some (.sl i) → ags[q]? = some (.sl i) → p = q
  | [], p, q, i, _, h, _ => by simp at h
  | a :: r, 0, 0, i, _, _, _ => rfl
  | a :: r, 0, q + 1, i, nd, h1, h2 => by
    simp at h1; subst h1
    have := slots_mem (p := q) (i := i) (ags := r) (by simpa using h2)
    simp [slots] at nd
    exact absurd this nd.1
  | a :: r, p + 1, 0, i, nd, h1, h2 => by
    simp at h2; subst h2
    have := slots_mem (p := p) (i := i) (ags := r) (by simpa using h1)
    simp [slots] at nd
    exact absurd this nd.1
  | a :: r, p + 1, q + 1, i, nd, h1, h2 => by
    have nd' : (slots r).Nodup := by cases a <;> simp [slots] at nd <;> first | exact nd | exact nd.2
    rw [slots_inj (p := p) (q := q) (i := i) nd' (by simpa using h1) (by simpa using h2)]
/-- what putBack does, slot by slot -/
theorem putBack_spec : ∀ (ags : List Ag) (os : List OC) (ρ : Env), (slots ags).Nodup →
    (putBack ags os ρ).length = ρ.length ∧
    (∀ (j : Nat), (j ∉ slots ags ∨ isOwn (ρ.getD j .no) = false) → (putBack ags os ρ)[j]? = ρ[j]?) ∧
    (∀ (p j : Nat) (xs : OC), ags[p]? = some (Ag.sl j) → ρ[j]? = some (.cell xs) → ∃ ys, (putBack ags os ρ)[j]? = some (.cell ys) ∧ (replOwn (ags.map (toSl ρ)) os)[p]? = some (.cell ys))
  | [], os, ρ, _ => ⟨rfl, fun _ _ => rfl, fun p j xs h => by simp at h⟩
  | .d x :: r, os, ρ, nd => by
    obtain ⟨h0, h1, h2⟩ := putBack_spec r os ρ nd
    refine ⟨h0, h1, fun p j xs e1 e2 => ?_⟩
    cases p with
    | zero => simp at e1
    | succ p =>
      obtain ⟨ys, q1, q2⟩ := h2 p j xs (by simpa using e1) e2
      exact ⟨ys, q1, by simpa [toSl, replOwn] using q2⟩
  | .tmp c :: r, os, ρ, nd => by
    obtain ⟨h0, h1, h2⟩ := putBack_spec r (os.drop 1) ρ nd
    refine ⟨h0, h1, fun p j xs e1 e2 => ?_⟩
    cases p with
    | zero => simp at e1
    | succ p =>
      obtain ⟨ys, q1, q2⟩ := h2 p j xs (by simpa using e1) e2
      refine ⟨ys, q1, ?_⟩
      cases os with
      | nil => simpa [toSl, replOwn] using q2
      | cons o os => simpa [toSl, replOwn] using q2
  | .sl i :: r, os, ρ, nd => by
    have ndr : (slots r).Nodup := by simp [slots] at nd; exact nd.2
    have nir : i ∉ slots r := by simp [slots] at nd; exact nd.1
    cases e : ρ.getD i .no with
    | cell xs0 =>
      have ei : ρ[i]? = some (.cell xs0) := by
        rw [List.getD_eq_getElem?_getD] at e
        cases q : ρ[i]? with
        | none => rw [q] at e; cases e
        | some s => rw [q] at e; simpa using e
      have hi : i < ρ.length := (List.getElem?_eq_some_iff.mp ei).1
      cases os with
      | nil =>
        have pe : putBack (.sl i :: r) [] ρ = putBack r [] ρ := by simp only [putBack, e]
        rw [pe]
        obtain ⟨h0, h1, h2⟩ := putBack_spec r [] ρ ndr
        refine ⟨h0, fun j hj => h1 j ?_, fun p j xs e1 e2 => ?_⟩
        · rcases hj with hj | hj
          · exact .inl fun z => hj (by simp [slots, z])
          · exact .inr hj
        · cases p with
          | zero =>
            simp at e1; subst e1
            refine ⟨xs, by rw [h1 i (.inl nir)]; exact e2, ?_⟩
            rw [ei] at e2; cases e2
            simp only [List.map_cons, toSl, e, replOwn, List.getElem?_cons_zero]
          | succ p =>
            obtain ⟨ys, q1, q2⟩ := h2 p j xs (by simpa using e1) e2
            exact ⟨ys, q1, by rw [List.map_cons]; simp only [toSl, e, replOwn, List.getElem?_cons_succ]; exact q2⟩
      | cons o os =>
        have pe : putBack (.sl i :: r) (o :: os) ρ = putBack r os (ρ.set i (.cell o)) := by simp only [putBack, e]
        rw [pe]
        obtain ⟨h0, h1, h2⟩ := putBack_spec r os (ρ.set i (.cell o)) ndr
        refine ⟨by rw [h0, List.length_set], fun j hj => ?_, fun p j xs e1 e2 => ?_⟩
        · have ne : i ≠ j := fun z => by
            subst z
            rcases hj with hj | hj
            · exact hj (by simp [slots])
            · rw [e] at hj; simp [isOwn] at hj
          rw [h1 j ?_, List.getElem?_set_ne ne]
          rcases hj with hj | hj
          · exact .inl fun z => hj (by simp [slots, z])
          · refine .inr ?_
            rw [List.getD_eq_getElem?_getD, List.getElem?_set_ne ne, ← List.getD_eq_getElem?_getD]; exact hj
        · cases p with
          | zero =>
            simp at e1; subst e1
            refine ⟨o, by rw [h1 i (.inl nir), List.getElem?_set_self hi], ?_⟩
            simp only [List.map_cons, toSl, e, replOwn, List.getElem?_cons_zero]
          | succ p =>
            have e1' : r[p]? = some (.sl j) := by simpa using e1
            have ne : i ≠ j := fun z => nir (by rw [z]; exact slots_mem e1')
            obtain ⟨ys, q1, q2⟩ := h2 p j xs e1' (by rw [List.getElem?_set_ne ne]; exact e2)
            refine ⟨ys, q1, ?_⟩
            have em : r.map (toSl (ρ.set i (.cell o))) = r.map (toSl ρ) := List.map_congr_left fun a ha => by
              cases a with
              | d x => rfl
              | tmp c => rfl
              | sl k =>
                have nk : i ≠ k := fun z => by
                  subst z
                  obtain ⟨q, hq, e3⟩ := List.mem_iff_getElem.mp ha
                  exact nir (slots_mem (p := q) (by rw [List.getElem?_eq_getElem hq, e3]))
                show (ρ.set i (.cell o)).getD k .no = ρ.getD k .no
                rw [List.getD_eq_getElem?_getD, List.getElem?_set_ne nk, ← List.getD_eq_getElem?_getD]
            rw [em] at q2
            rw [List.map_cons]; simp only [toSl, e, replOwn, List.getElem?_cons_succ]; exact q2
    | _ =>
      have pe : putBack (.sl i :: r) os ρ = putBack r os ρ := by simp only [putBack, e]
      rw [pe]
      obtain ⟨h0, h1, h2⟩ := putBack_spec r os ρ ndr
      refine ⟨h0, fun j hj => ?_, fun p j xs e1 e2 => ?_⟩
      · by_cases z : j ∈ slots r
        · refine h1 j (.inr ?_)
          rcases hj with hj | hj
          · exact absurd (by simp [slots, z]) hj
          · exact hj
        · exact h1 j (.inl z)
      · cases p with
        | zero =>
          simp at e1; subst e1
          rw [List.getD_eq_getElem?_getD, e2] at e
          simp at e
        | succ p =>
          obtain ⟨ys, q1, q2⟩ := h2 p j xs (by simpa using e1) e2
          exact ⟨ys, q1, by rw [List.map_cons]; simp only [toSl, e, replOwn, List.getElem?_cons_succ]; exact q2⟩
end DL
end
section
namespace DL
open PySem PySem.Spec L2
open PyProof.Rows hiding St

theorem slots_at {i : Nat} : ∀ {ags : List Ag}, i ∈ slots ags → ∃ p : Nat, ags[p]? = some (Ag.sl i)
  | [], h => by simp [slots] at h
  | .d x :: l, h => by
    obtain ⟨p, hp⟩ := slots_at (ags := l) (by simpa [slots] using h)
    exact ⟨p + 1, by simpa using hp⟩
  | .tmp x :: l, h => by
    obtain ⟨p, hp⟩ := slots_at (ags := l) (by simpa [slots] using h)
    exact ⟨p + 1, by simpa using hp⟩
  | .sl j :: l, h => by
    simp only [slots, List.mem_cons] at h
    rcases h with rfl | h
    · exact ⟨0, rfl⟩
    · obtain ⟨p, hp⟩ := slots_at h
      exact ⟨p + 1, by simpa using hp⟩
theorem putBack_own {ags : List Ag} {os : List OC} {ρ : DL.Env} (nd : (slots ags).Nodup) {j : Nat} {ys : OC} (h : (putBack ags os ρ)[j]? = some (.cell ys)) : ∃ xs, ρ[j]? = some (.cell xs) := by
  obtain ⟨h0, h1, h2⟩ := putBack_spec ags os ρ nd
  by_cases hj : j ∈ slots ags ∧ isOwn (ρ.getD j .no) = true
  · have ho := hj.2
    rw [List.getD_eq_getElem?_getD] at ho
    cases q : ρ[j]? with
    | none => rw [q] at ho; simp [isOwn] at ho
    | some s =>
      rw [q] at ho
      cases s with
      | cell xs => exact ⟨xs, rfl⟩
      | _ => simp [isOwn] at ho
  · have hj : j ∉ slots ags ∨ isOwn (ρ.getD j .no) = false := by
      by_cases a : j ∈ slots ags
      · right
        cases b : isOwn (ρ.getD j .no) with
        | false => rfl
        | true => exact absurd ⟨a, b⟩ hj
      · exact .inl a
    exact ⟨ys, by rw [← h1 j hj]; exact h⟩
/-- the caller's state behind a call -/
theorem after_call {G : Gh} {σ : L2.St} {H H' : Hp} {ρ : DL.Env} {vs : List V} {ags : List Ag} {os : List OC} (k : StOk G σ H ρ) (r : AgOk G.m σ H vs ags) (fr : FrAg G σ ρ vs ags) (nd : (slots ags).Nodup) (kp : Keeps vs (ags.map (toSl ρ)) H H') (st : Stable H H')
    (a : ArgOk G.m G.ex vs H' (replOwn (ags.map (toSl ρ)) os)) : StOk G σ H' (putBack ags os ρ) := by
  obtain ⟨h0, h1, h2⟩ := putBack_spec ags os ρ nd
  have gd : ∀ {j : Nat} {s : Sl}, ρ[j]? = some s → ρ.getD j .no = s := fun {j s} h => by rw [List.getD_eq_getElem?_getD, h]; rfl
  -- a slot is an own argument's, or as it was
  have cases_ : ∀ (j : Nat), (putBack ags os ρ)[j]? = ρ[j]? ∨ ∃ (p : Nat) (xs ys : OC), ags[p]? = some (.sl j) ∧ ρ[j]? = some (.cell xs) ∧ (putBack ags os ρ)[j]? = some (.cell ys) ∧ (replOwn (ags.map (toSl ρ)) os)[p]? = some (.cell ys) := fun j => by
    by_cases hj : j ∈ slots ags
    · cases ho : isOwn (ρ.getD j .no) with
      | false => exact .inl (h1 j (.inr ho))
      | true =>
        have e : ∃ xs, ρ[j]? = some (.cell xs) := by
          rw [List.getD_eq_getElem?_getD] at ho
          cases q : ρ[j]? with
          | none => rw [q] at ho; simp [isOwn] at ho
          | some s =>
            rw [q] at ho
            cases s with
            | cell xs => exact ⟨xs, rfl⟩
            | _ => simp [isOwn] at ho
        obtain ⟨xs, e⟩ := e
        have ex := slots_at hj
        obtain ⟨p, hp⟩ := ex
        obtain ⟨ys, q1, q2⟩ := h2 p j xs hp e
        exact .inr ⟨p, xs, ys, hp, e, q1, q2⟩
    · exact .inl (h1 j (.inl hj))
  have own0 : ∀ (j : Nat) (ys : OC), (putBack ags os ρ)[j]? = some (.cell ys) → ∃ xs, ρ[j]? = some (.cell xs) := fun j ys h => by
    rcases cases_ j with e | ⟨p, xs, _, _, e, _⟩
    · exact ⟨ys, by rw [← e]; exact h⟩
    · exact ⟨xs, e⟩
  have notarg : ∀ (b : Addr), (∀ (j : Nat) (xs : OC), ρ[j]? = some (.cell xs) → j ∈ slots ags → σ[j]? ≠ some (some (.ref b))) → (∀ a, Fresh G σ ρ a → a ≠ b) → ∀ (p : Nat) (xs : OC), (ags.map (toSl ρ))[p]? = some (.cell xs) → vs[p]? ≠ some (.ref b) := fun b hb hb2 p xs hp hv => by
    rw [List.getElem?_map] at hp
    cases q : ags[p]? with
    | none => rw [q] at hp; cases hp
    | some ag =>
      rw [q] at hp
      cases ag with
      | d x => simp [toSl] at hp
      | tmp c => exact hb2 b (fr.1 p c b q hv) rfl
      | sl i =>
        have hp : ρ.getD i .no = .cell xs := by simpa [toSl] using hp
        obtain ⟨v, e1, e2⟩ := r.atS q
        rw [hv] at e1; cases e1
        have ei : ρ[i]? = some (.cell xs) := by
          rw [List.getD_eq_getElem?_getD] at hp
          cases z : ρ[i]? with
          | none => rw [z] at hp; cases hp
          | some s => rw [z] at hp; simpa using hp
        exact hb i xs ei (slots_mem q) e2
  refine ⟨by rw [k.len, h0], fun j x h => ?_, fun j ys h => ?_, fun i j xs ys b ne e1 e2 e3 => ?_, fun p hp => ?_, fun b o e1 e2 => ?_, fun j c h => ?_⟩
  · rcases cases_ j with e | ⟨p, xs, ys, _, _, e, _⟩
    · obtain ⟨v, q1, q2⟩ := k.dat j x (by rw [← e]; exact h)
      exact ⟨v, q1, q2.st st⟩
    · rw [e] at h; cases h
  · rcases cases_ j with e | ⟨p, xs, zs, e1, e2, e3, e4⟩
    · have hj : ρ[j]? = some (.cell ys) := by rw [← e]; exact h
      by_cases hs : j ∈ slots ags
      · -- it is an argument, and stands as it stood
        obtain ⟨p, hp⟩ := slots_at hs
        obtain ⟨zs, q1, q2⟩ := h2 p j ys hp hj
        rw [h] at q1; cases q1
        obtain ⟨b, ws0, g1, g2, g3, g4⟩ := k.own j ys hj
        obtain ⟨b', ws, g5, g6, g7⟩ := a.own p ys q2
        obtain ⟨v, e5, e6⟩ := r.atS hp
        rw [g5] at e5; cases e5
        rw [g1] at e6; cases e6
        exact ⟨b, ws, g1, g6, g7, g4⟩
      · obtain ⟨b, ws, g1, g2, g3, g4⟩ := k.own j ys hj
        refine ⟨b, ws, g1, kp b _ g2 (notarg b (fun i xs hi hm z => ?_) fun a fa e => fa.2.2 j ys hj (by rw [e]; exact g1)), g3.st st, g4⟩
        have ne : i ≠ j := fun w => by subst w; exact hs hm
        exact k.sep i j xs ys b ne hi hj z g1
    · rw [h] at e3; cases e3
      obtain ⟨b, ws0, g1, g2, g3, g4⟩ := k.own j xs e2
      obtain ⟨b', ws, g5, g6, g7⟩ := a.own p ys e4
      obtain ⟨v, e5, e6⟩ := r.atS e1
      rw [g5] at e5; cases e5
      rw [g1] at e6; cases e6
      exact ⟨b, ws, g1, g6, g7, g4⟩
  · obtain ⟨u1, o1⟩ := own0 i xs e1
    obtain ⟨u2, o2⟩ := own0 j ys e2
    exact k.sep i j u1 u2 b ne o1 o2 e3
  · obtain ⟨q1, xs, q2⟩ := k.prot p hp
    refine ⟨q1, ?_⟩
    rcases cases_ p.1 with e | ⟨_, _, ys, _, _, e, _⟩
    · exact ⟨xs, by rw [e]; exact q2⟩
    · exact ⟨ys, e⟩
  · refine kp b o (k.keep b o e1 e2) (notarg b (fun i xs hi _ z => ?_) fun a fa e => by subst e; rw [fa.1] at e1; cases e1)
    obtain ⟨b', ws, g1, _, _, g4⟩ := k.own i xs hi
    rw [z] at g1; cases g1
    by_cases c : ∀ p ∈ G.pr, p.1 ≠ i
    · have q := (g4 c).1
      rw [e1] at q; cases q
    · apply c
      intro p hp w
      obtain ⟨q1, _⟩ := k.prot p hp
      rw [w, z] at q1
      injection q1 with q1; injection q1 with q1; injection q1 with q1
      exact e2 p hp q1.symm
  · rcases cases_ j with e | ⟨p, xs, ys, _, _, e, _⟩
    · exact k.exn j c (by rw [← e]; exact h)
    · rw [e] at h; cases h

/-! ### arguments of a def's call -/
def gT (G : Gh) (W : WX) (f : M (List Ag)) : TA := fun σ H Q => ∃ ρ, StOk G σ H ρ ∧ postG G W σ H (f ρ) fun ags ρ' H' => ∀ vs, AgOk G.m σ H' vs ags → FrAg G σ ρ' vs ags → Q vs H'
def DG (X : Cx) (G : Gh) (W : WX) (es : List Expr) (f : M (List Ag)) : Prop := PA X es (gT G W f)
def consA (f : M D) (g : M (List Ag)) : M (List Ag) := bindM f fun x => bindM g fun r => pureM (.d x :: r)
def consS (i : Nat) (g : M (List Ag)) : M (List Ag) := bindM g fun r => pureM (.sl i :: r)
/-- ags to a call -/
def callM (f : Fn) (fa : M (List Ag)) : M D := bindM fa fun ags ρ => if (slots ags).Nodup then (match f (ags.map (toSl ρ)) with
  | .ok d os => .ok d (putBack ags os ρ)
  | .exc c os => .exc c (putBack ags os ρ)
  | .stuck => .stuck) else .stuck
def callL (f : Fn) (fa : M (List Ag)) : M (List D) := bindM (callM f fa) fun d => match d with
  | .lst ds => pureM ds
  | _ => stuckM
section
variable {X : Cx} {G : Gh} {W : WX} {e : Expr} {es : List Expr} {pos : Pos}
theorem dg_nil : DG X G W [] (pureM []) := pa_imp pa_nil fun σ H Q ⟨ρ, k, q⟩ => q H Stable.rfl k _ .nil .nil
theorem dg_d {f : M D} {g : M (List Ag)} (ha : DE X G W e f) (hr : DG X G W es g) (hs : starEach (e :: es) X.env = (false, eval e X.env) :: starEach es X.env := by rfl) : DG X G W (e :: es) (consA f g) :=
  pa_imp (pa_cons ha hr hs) fun σ H Q ⟨ρ, k, q⟩ => ⟨ρ, k, q.bind.mono fun x ρ1 H1 _ s1 k1 q1 v r => ⟨ρ1, k1, q1.bind.mono fun xs ρ2 H2 _ s2 k2 q2 vs rs fs => q2 H2 Stable.rfl k2 _ (.d (r.st s2) rs) (fs.cons fun c z => by cases z)⟩⟩
/-- the slot is own (or the handled exception) when the call comes -/
def haveS (i : Nat) : M Unit := fun ρ => match ρ[i]? with
  | some (.cell _) => .ok () ρ
  | some (.exn _) => .ok () ρ
  | _ => .stuck
theorem dg_s (i : Nat) {x : Str} {g : M (List Ag)} {pos' : Pos} (hr : DG X G W es g) (hN : X.N[i]? = some x) (hv : Vis X.env.scope x := by first | exact .inl rfl | exact .inr (.inl rfl) | exact .inr (.inr rfl)) (hd : (x == ("__debug__" : Str)) = false := by decide) (hcd : (x == ("__classdict__" : Str)) = false := by decide)
    (hs : starEach (.Name x pos' :: es) X.env = (false, eval (.Name x pos') X.env) :: starEach es X.env := by rfl) : DG X G W (.Name x pos' :: es) (bindM (haveS i) fun _ => consS i g) :=
  pa_imp (pa_cons (pe_var (i := i) hN hv hd hcd) hr hs) fun σ H Q ⟨ρ, k, q⟩ => by
    have fin : ∀ a, σ[i]? = some (some (.ref a)) → postG G W σ H (consS i g ρ) (fun ags ρ' H' => ∀ vs, AgOk G.m σ H' vs ags → FrAg G σ ρ' vs ags → Q vs H') → tCons (tVar i) (gT G W g) σ H Q := fun a h1 q =>
      ⟨_, h1, ρ, k, q.bind.mono fun ags ρ1 H1 _ s1 k1 q1 vs rs fs => q1 H1 Stable.rfl k1 _ (.sl h1 rs) (fs.cons fun c z => by cases z)⟩
    have q := q.bind
    cases e : ρ[i]? with
    | none =>
      have e2 : haveS i ρ = .stuck := by unfold haveS; rw [e]
      rw [e2] at q; exact q.elim
    | some s =>
      cases s with
      | cell xs =>
        have e2 : haveS i ρ = .ok () ρ := by unfold haveS; rw [e]
        rw [e2] at q
        obtain ⟨a, vs, h1, _⟩ := k.own i xs e
        exact fin a h1 (q H Stable.rfl k)
      | exn c =>
        have e2 : haveS i ρ = .ok () ρ := by unfold haveS; rw [e]
        rw [e2] at q
        obtain ⟨a, _, h1⟩ := k.exn i c e
        exact fin a h1 (q H Stable.rfl k)
      | no =>
        have e2 : haveS i ρ = .stuck := by unfold haveS; rw [e]
        rw [e2] at q; exact q.elim
      | d x =>
        have e2 : haveS i ρ = .stuck := by unfold haveS; rw [e]
        rw [e2] at q; exact q.elim
/-- the arguments as the callee meets them -/
theorem ag_arg {σ : L2.St} {H : Hp} {ρ : DL.Env} {vs : List V} {ags : List Ag} (k : StOk G σ H ρ) (r : AgOk G.m σ H vs ags) (fr : FrAg G σ ρ vs ags) (nd : (slots ags).Nodup) : ArgOk G.m G.ex vs H (ags.map (toSl ρ)) := by
  have at_ : ∀ (i : Nat) (s : Sl), s ≠ .no → (ags.map (toSl ρ))[i]? = some s → (∃ x, s = .d x ∧ ags[i]? = some (.d x)) ∨ (∃ j, ags[i]? = some (.sl j) ∧ ρ[j]? = some s) ∨ ∃ c, s = .cell c ∧ ags[i]? = some (.tmp c) := fun i s hs h => by
    rw [List.getElem?_map] at h
    cases q : ags[i]? with
    | none => rw [q] at h; cases h
    | some ag =>
      rw [q] at h
      cases ag with
      | d x => simp [toSl] at h; exact .inl ⟨x, h.symm, rfl⟩
      | tmp c => simp [toSl] at h; exact .inr (.inr ⟨c, h.symm, rfl⟩)
      | sl j =>
        refine .inr (.inl ⟨j, rfl, ?_⟩)
        have h : ρ.getD j .no = s := by simpa [toSl] using h
        rw [List.getD_eq_getElem?_getD] at h
        cases z : ρ[j]? with
        | none => rw [z] at h; exact absurd h.symm hs
        | some t => rw [z] at h; simpa using h
  refine ⟨by rw [List.length_map]; exact r.len, fun i x h => ?_, fun i xs h => ?_, fun i j xs ys a ne h1 h2 h3 h4 => ?_, fun i c h => ?_⟩
  · rcases at_ i _ (fun z => by cases z) h with ⟨y, e, q⟩ | ⟨j, q, e⟩ | ⟨c, e, _⟩
    · cases e; exact r.atD q
    rotate_left
    · cases e
    · obtain ⟨v, e1, e2⟩ := r.atS q
      obtain ⟨w, e3, e4⟩ := k.dat j x e
      rw [e2] at e3; cases e3
      exact ⟨v, e1, e4⟩
  · rcases at_ i _ (fun z => by cases z) h with ⟨y, e, q⟩ | ⟨j, q, e⟩ | ⟨c, e, q⟩
    · cases e
    · obtain ⟨v, e1, e2⟩ := r.atS q
      obtain ⟨a, ws, e3, e4, e5, _⟩ := k.own j xs e
      rw [e2] at e3; cases e3
      exact ⟨a, ws, e1, e4, e5⟩
    · cases e; exact r.atT q
  · rcases at_ i _ (fun z => by cases z) h1 with ⟨y, e, q⟩ | ⟨i', q, e⟩ | ⟨c, e, q⟩
    · cases e
    · rcases at_ j _ (fun z => by cases z) h2 with ⟨y, e', q'⟩ | ⟨j', q', e'⟩ | ⟨c', e', q'⟩
      · cases e'
      · obtain ⟨v, e1, e2⟩ := r.atS q
        obtain ⟨v', e1', e2'⟩ := r.atS q'
        rw [h3] at e1; cases e1
        rw [h4] at e1'; cases e1'
        have ne' : i' ≠ j' := fun z => by subst z; exact ne (slots_inj nd q q')
        exact k.sep i' j' xs ys a ne' e e' e2 e2'
      · obtain ⟨v, e1, e2⟩ := r.atS q
        rw [h3] at e1; cases e1
        exact (fr.1 j c' a q' h4).2.2 i' xs e e2
    · rcases at_ j _ (fun z => by cases z) h2 with ⟨y, e', q'⟩ | ⟨j', q', e'⟩ | ⟨c', e', q'⟩
      · cases e'
      · obtain ⟨v', e1', e2'⟩ := r.atS q'
        rw [h4] at e1'; cases e1'
        exact (fr.1 i c a q h3).2.2 j' ys e' e2'
      · exact fr.2 i j c c' a ne q q' h3 h4
  · rcases at_ i _ (fun z => by cases z) h with ⟨y, e, q⟩ | ⟨j, q, e⟩ | ⟨c', e, _⟩
    · cases e
    rotate_left
    · cases e
    · obtain ⟨v, e1, e2⟩ := r.atS q
      obtain ⟨a, e3, e4⟩ := k.exn j c e
      rw [e2] at e4; cases e4
      exact ⟨a, e3, e1⟩
theorem call_run {md : List Bool} {rm : RM} {f : Fn} {σ : L2.St} {H : Hp} {ρ : DL.Env} {vs : List V} {ags : List Ag} {Q : VK} {R : D → DL.Env → Hp → Prop} (hex : G.ex = none) (k : StOk G σ H ρ) (r : AgOk G.m σ H vs ags) (fr : FrAg G σ ρ vs ags) (hmd : ∀ ρ', ρ' = ags.map (toSl ρ) → ρ'.map isOwn = md)
    (q : postG G W σ H (if (slots ags).Nodup then (match f (ags.map (toSl ρ)) with
      | .ok d os => .ok d (putBack ags os ρ)
      | .exc c os => .exc c (putBack ags os ρ)
      | .stuck => .stuck) else .stuck) R) (hQ : ∀ d ρ' v H', Stable H H' → StOk G σ H' ρ' → (∀ (i : Nat) ys, ρ'[i]? = some (Sl.cell ys) → ∃ xs, ρ[i]? = some (Sl.cell xs)) → RetF rm G.m H H' v d → R d ρ' H' → Q v H') : spD G.m none md rm f vs H Q (WE W σ) := by
  by_cases nd : (slots ags).Nodup
  · rw [if_pos nd] at q
    refine ⟨ags.map (toSl ρ), hmd _ rfl, by have := ag_arg k r fr nd; rw [hex] at this; exact this, ?_⟩
    cases e : f (ags.map (toSl ρ)) with
    | ok d os =>
      rw [e] at q
      intro v H' kp st a rf
      have k' := after_call k r fr nd kp st (by rw [hex]; exact a)
      exact hQ d _ v H' st k' (fun i ys h => putBack_own nd h) rf (q H' st k')
    | exc c os =>
      rw [e] at q
      intro C H' e kp st a
      have k' := after_call k r fr nd kp st (by rw [hex]; exact a)
      exact q C H' e st k'
    | stuck => rw [e] at q; exact q.elim
  · rw [if_neg nd] at q; exact q.elim
/-- which slots the arguments hand on by reference: a check -/
def mdM (md : List Bool) (fa : M (List Ag)) : M (List Ag) := bindM fa fun ags ρ => if (ags.map (toSl ρ)).map isOwn = md then .ok ags ρ else .stuck
variable {CX : CXT} {kk : Nat} {fA : Addr} {fd : FuncData} {ps : List Str} {md : List Bool} {f : Fn} {x : Str} {p : Pos}
theorem mdM_run {fa : M (List Ag)} {σ : L2.St} {H : Hp} {ρ : DL.Env} {β : Type} {kf : List Ag → M β} {R : β → DL.Env → Hp → Prop} (q : postG G W σ H (bindM (mdM md fa) kf ρ) R) :
    postG G W σ H (fa ρ) fun ags ρ1 H1 => (ags.map (toSl ρ1)).map isOwn = md ∧ postG G W σ H1 (kf ags ρ1) R := by
  unfold mdM bindM at q
  cases e : fa ρ with
  | ok ags ρ1 =>
    rw [e] at q
    by_cases h : (ags.map (toSl ρ1)).map isOwn = md
    · intro H1 s1 k1
      refine ⟨h, ?_⟩
      simp only [h, if_true] at q
      exact postG.from s1 q
    · simp only [h, if_false] at q; exact q.elim
  | exc c ρ1 => rw [e] at q; exact q
  | stuck => rw [e] at q; exact q
theorem de_call {fa : M (List Ag)} (hex : G.ex = none) (hm0 : G.m = ⟨X.K, X.mg, X.w⟩) (tk : Takes X W) (F : FnOk X.prog X.w X.K X.mg X.base (L2.CX X.prog X.w) kk fA fd ps (spD ⟨X.K, X.mg, X.w⟩ none md .f f)) (hr : Room kk X.A) (hg : Gl X x) (hm : X.mg x = some (.ref fA)) (hk : PySem.W.keepIn X.K (.ref fA) = true) (hb : Binds X.K fd ps [])
    (ha : DG X G W (e :: es) fa) (hdb : (x == ("__debug__" : Str)) = false := by decide) (he : starEach (e :: es) X.env = (false, eval e X.env) :: starEach es X.env := by rfl) (hpl : (backTo pos (starEach es X.env)).any (·.1) = false := by rfl) :
    DE X G W (.Call (.Name x p) (e :: es) [] pos) (callM f (mdM md fa)) :=
  pe_imp (pe_callS F hr hg hm hk hb (fun σ => passAt tk σ) ha hdb he hpl) fun σ H Q ⟨ρ, k, q⟩ => ⟨ρ, k, (mdM_run q).mono fun ags ρ1 H1 _ s1 k1 q1 vs rs fs => by
    rw [← hm0]
    exact call_run hex k1 rs fs (fun ρ' e => by rw [e]; exact q1.1) q1.2 fun d ρ' v H' _ _ _ rf h => h v rf⟩
end
end DL
end
section
namespace DL
open PySem PySem.Spec L2
open PyProof.Rows hiding St

abbrev W0 : WX := fun _ _ _ _ => False
theorem takes0 {X : Cx} : Takes X W0 := fun u s' ⟨_, _, _, _, _, _, _, _, _, _, _, _, _, _, _, _, w⟩ => w.elim

/-! ### targets -/
abbrev TgF := D → DL.Env → Option DL.Env
def SameBut (js : List Nat) (σ σ' : L2.St) : Prop := σ'.length = σ.length ∧ ∀ j, j ∉ js → σ'[j]? = σ[j]?
def tgT (G : Gh) (js : List Nat) (t : TgF) : TG := fun v σ H Q => ∃ ρ d ρ', StOk G σ H ρ ∧ Rep G.m H v d ∧ t d ρ = some ρ' ∧ ∀ σ' H', SameBut js σ σ' → Stable H H' → StOk G σ' H' ρ' → Q σ' H'
def DGt (X : Cx) (G : Gh) (tg : Expr) (js : List Nat) (t : TgF) : Prop := PG X tg (tgT G js t)
abbrev TgsF := List D → DL.Env → Option DL.Env
def tgsT (G : Gh) (js : List Nat) (t : TgsF) : TGs := fun vs σ H Q => ∃ ρ ds ρ', StOk G σ H ρ ∧ RepL G.m H vs ds ∧ t ds ρ = some ρ' ∧ ∀ σ' H', SameBut js σ σ' → Stable H H' → StOk G σ' H' ρ' → Q σ' H'
def DGts (X : Cx) (G : Gh) (tgs : List Expr) (js : List Nat) (t : TgsF) : Prop := PGs X tgs (tgsT G js t)
theorem pg_imp {X : Cx} {e : Expr} {t t' : TG} (h : PG X e t) (k : ∀ v σ H Q, t' v σ H Q → t v σ H Q) : PG X e t' := ⟨fun pins s σ H v u Q I r q => h.run pins s σ H v u Q I r (k v σ H Q q)⟩
theorem pgs_imp {X : Cx} {e : List Expr} {t t' : TGs} (h : PGs X e t) (k : ∀ v σ H Q, t' v σ H Q → t v σ H Q) : PGs X e t' := ⟨fun pins s σ H v u Q I r q => h.run pins s σ H v u Q I r (k v σ H Q q)⟩
def tgN (i : Nat) : TgF := fun d ρ => some (ρ.set i (.d d))
def tgU (n : Nat) (t : TgsF) : TgF := fun d ρ => match d with
  | .tup ds => if ds.length = n then t ds ρ else none
  | _ => none
def tgs0 : TgsF := fun ds ρ => match ds with
  | [] => some ρ
  | _ => none
def tgs1 (t : TgF) (u : TgsF) : TgsF := fun ds ρ => match ds with
  | [] => none
  | d :: r => (t d ρ).bind (u r)
section
variable {X : Cx} {G : Gh} {W : WX} {rm : RM} {pos : Pos}
theorem dg_name (i : Nat) {x : Str} (hp : pfree G i) (hN : X.N.Nodup) (hi : X.N[i]? = some x) (hx : Loc X.env.scope x) (hf : X.fn x = true ∨ X.env.scope.names.lookup x = some .local := by first | exact .inl rfl | exact .inr rfl | assumption) : DGt X G (.Name x pos) [i] (tgN i) :=
  pg_imp (pg_name hN hi hx hf) fun v σ H Q ⟨ρ, d, ρ', k, r, e, q⟩ => by
    cases e
    exact q _ _ ⟨by simp, fun j hj => by rw [List.getElem?_set_ne (fun z => hj (by simp [z]))]⟩ Stable.rfl (k.setD hp r)
theorem dgs_nil : DGts X G [] [] tgs0 := pgs_imp pgs_nil fun vs σ H Q ⟨ρ, ds, ρ', k, r, e, q⟩ => by
  cases r with
  | nil => cases e; exact ⟨rfl, q _ _ ⟨rfl, fun _ _ => rfl⟩ Stable.rfl k⟩
  | cons a b => cases e
theorem SameBut.trans {js ks : List Nat} {σ σ1 σ2 : L2.St} (a : SameBut js σ σ1) (b : SameBut ks σ1 σ2) : SameBut (js ++ ks) σ σ2 := ⟨b.1.trans a.1, fun j hj => by
  rw [b.2 j (fun z => hj (by simp [z])), a.2 j (fun z => hj (by simp [z]))]⟩
theorem dgs_cons {e : Expr} {es : List Expr} {js ks : List Nat} {t : TgF} {u : TgsF} (h1 : DGt X G e js t) (h2 : DGts X G es ks u) (hs : (assignEach (e :: es) X.env).map (·.2) = assign e X.env :: (assignEach es X.env).map (·.2) := by rfl) : DGts X G (e :: es) (js ++ ks) (tgs1 t u) :=
  pgs_imp (pgs_cons h1 h2 hs) fun vs σ H Q ⟨ρ, ds, ρ', k, r, e, q⟩ => by
    cases r with
    | nil => cases e
    | @cons v vs d ds a b =>
      have e : (t d ρ).bind (u ds) = some ρ' := e
      cases e1 : t d ρ with
      | none => rw [e1] at e; cases e
      | some ρ1 =>
        rw [e1] at e
        exact ⟨v, vs, rfl, ρ, d, ρ1, k, a, e1, fun σ1 H1 b1 s1 k1 => ⟨ρ1, ds, ρ', k1, b.st s1, e, fun σ2 H2 b2 s2 k2 => q σ2 H2 (b1.trans b2) (s1.trans s2) k2⟩⟩
theorem dg_tup {es : List Expr} {k : Nat} {js : List Nat} {t : TgsF} {n : Nat} (hK : G.m = ⟨X.K, X.mg, X.w⟩) (hc : X.calm = true) (h : DGts X G es js t) (hn : (assignEach es X.env).length = n := by rfl) (hst : (assignEach es X.env).findIdx? (·.1) = none := by rfl) : DGt X G (.Tuple es k pos) js (tgU n t) :=
  pg_imp (pg_tup hc h hn hst) fun v σ H Q ⟨ρ, d, ρ', k, r, e, q⟩ => by
    cases r with
    | @tup a vs ds hq rl =>
      have e : (if ds.length = n then t ds ρ else none) = some ρ' := e
      by_cases hl : ds.length = n
      · rw [if_pos hl] at e
        exact ⟨a, vs, rfl, by rw [hK] at hq; exact hq, by rw [rl.len]; exact hl, ρ, ds, ρ', k, rl, e, q⟩
      · rw [if_neg hl] at e; cases e
    | _ => cases e
/-- targets = e, e a tuple -/
def asgM (f : M D) (t : TgF) : MS := bindM f fun d ρ => match t d ρ with
  | some ρ' => .ok .nx ρ'
  | none => .stuck
theorem ds_asg {tg e : Expr} {f : M D} {js : List Nat} {t : TgF} (he : DE X G W e f) (hg : DGt X G tg js t) (hs : swapsWithSole [tg] e pos.line X.env = pure false := by rfl) (hw : swappedStores [tg] e X.env = pure none := by rfl)
    (h1 : (assignEach [tg] X.env).map (·.2) = [assign tg X.env] := by rfl) : DS X G W rm (.Assign [tg] e pos) (asgM f t) :=
  ps_imp (ps_asg he hg hs hw h1) fun E σ H ⟨ρ, k, q⟩ => ⟨ρ, k, q.bind.mono fun d ρ1 H1 _ s1 k1 q1 v r => by
    cases e1 : t d ρ1 with
    | none => rw [e1] at q1; exact q1.elim
    | some ρ2 =>
      rw [e1] at q1
      exact ⟨ρ1, d, ρ2, k1, r, e1, fun σ' H' _ s' k' => q1 σ' H' s' k'⟩⟩
/-- a, b = e1, e2 -/
def parM (i j : Nat) (f : M (List D)) : MS := bindM f fun ds ρ => match ds with
  | [x, y] => .ok .nx ((ρ.set i (.d x)).set j (.d y))
  | _ => .stuck
theorem ds_par (i j : Nat) {x y : Str} {a b : Expr} {f : M (List D)} {px py pt : Pos} {kt k2 pt2} (hi' : pfree G i) (hj' : pfree G j) (hc : X.calm = true) (hN : X.N.Nodup) (hi : X.N[i]? = some x) (hj : X.N[j]? = some y) (hij : i ≠ j)
    (hx : X.env.scope.names.lookup x = some .local) (hy : X.env.scope.names.lookup y = some .local) (ha : DA X G W [a, b] f)
    (hw : swappedStores [.Tuple [.Name x px, .Name y py] kt pt] (.Tuple [a, b] k2 pt2) X.env = pure (some [x, y]))
    (hs : swapsWithSole [.Tuple [.Name x px, .Name y py] kt pt] (.Tuple [a, b] k2 pt2) pos.line X.env = pure false := by rfl) :
    DS X G W rm (.Assign [.Tuple [.Name x px, .Name y py] kt pt] (.Tuple [a, b] k2 pt2) pos) (parM i j f) :=
  ps_imp (ps_par hc hN hi hj hij hx hy ha hw hs) fun E σ H ⟨ρ, k, q⟩ => ⟨ρ, k, q.bind.mono fun ds ρ1 H1 _ s1 k1 q1 vs r => by
    cases r with
    | nil => exact q1.elim
    | cons r1 r =>
      cases r with
      | nil => exact q1.elim
      | cons r2 r =>
        cases r with
        | nil => exact ⟨_, _, rfl, q1 _ _ Stable.rfl ((k1.setD hi' r1).setD hj' r2)⟩
        | cons r3 r => exact q1.elim⟩

/-! ### what is walked -/
structure IterOk (m : Md) (H : Hp) (J : It) (xs : List D) : Prop where
  stop : ∀ i H', Stable H H' → xs.length ≤ i → J.stop i H'
  go : ∀ i H', Stable H H' → i < xs.length → J.go i H'
  yld : ∀ i H1 v H2, Stable H H1 → i < xs.length → J.yld i H1 v H2 → H2 = H1 ∧ ∃ d, xs[i]? = some d ∧ Rep m H1 v d
def iT (G : Gh) (W : WX) (f : M (List D)) : TI := fun σ H R => ∃ ρ, StOk G σ H ρ ∧ postG G W σ H (f ρ) fun xs _ H' => ∀ J, IterOk G.m H' J xs → R J H'
def DI (X : Cx) (G : Gh) (W : WX) (tg iter : Expr) (f : M (List D)) : Prop := PI X tg iter (iT G W f)
theorem pi_imp {tg iter : Expr} {t t' : TI} (h : PI X tg iter t) (k : ∀ σ H R, t' σ H R → t σ H R) : PI X tg iter t' := ⟨fun pins s σ H R I q => h.run pins s σ H R I (k σ H R q)⟩
theorem iter_list {m : Md} {H : Hp} {a : Addr} {vs : List V} {ds : List D} (hq : SqF m.K H a vs) (r : RepL m H vs ds) : IterOk m H (Itl m.K a) ds where
  stop := fun i H' s h => ⟨vs, (hq.st s).sq, by rw [r.len]; exact h⟩
  go := fun i H' s h => ⟨vs, vs[i]'(by rw [r.len]; exact h), (hq.st s).sq, by simp [r.len, h]⟩
  yld := fun i H1 v H2 s hi h => by
    obtain ⟨e, h⟩ := h
    have hv := h vs (hq.st s).sq
    obtain ⟨d, h1, h2⟩ := r.getV hv
    exact ⟨e, d, h1, h2.st s⟩
theorem iter_tup {m : Md} {H : Hp} {a : Addr} {vs : List V} {ds : List D} (hq : SqT m.K H a vs) (r : RepL m H vs ds) : IterOk m H (Itt m.K a) ds where
  stop := fun i H' s h => ⟨vs, SqT_st s hq, by rw [r.len]; exact h⟩
  go := fun i H' s h => ⟨vs, vs[i]'(by rw [r.len]; exact h), SqT_st s hq, by simp [r.len, h]⟩
  yld := fun i H1 v H2 s hi h => by
    obtain ⟨e, h⟩ := h
    have hv := h vs (SqT_st s hq)
    obtain ⟨d, h1, h2⟩ := r.getV hv
    exact ⟨e, d, h1, h2.st s⟩
/-- a list or a tuple, walked -/
def iAny (K : PySem.W.Frag) (tl : TE) : TI := fun σ H R => tl σ H fun x H1 => ∃ a, x = .ref a ∧ (((∃ xs, SqL K H1 a xs) ∧ R (Itl K a) H1) ∨ ((∃ xs, SqT K H1 a xs) ∧ R (Itt K a) H1))
theorem pi_any {tg l : Expr} {tl : TE} (hl : PE X l tl) : PI X tg l (iAny X.K tl) := ⟨fun pins s σ H R I h => thn (hl.run pins s σ H _ I h) fun v s1 ⟨x, H1, I1, r1, a, e, q⟩ => by
  subst e
  cases r1
  have new : ∀ b ∈ [s1.heap.objs.size], FpOk X pins H1 b := fun b hb => by
    rw [List.mem_singleton.mp hb]
    exact I1.fpOk (Nat.le_refl _) (I1.hok.fresh (Nat.le_refl _))
  rcases q with ⟨⟨xs, hq⟩, q⟩ | ⟨⟨xs, hq⟩, q⟩
  · obtain ⟨its, _, pl, _⟩ := I1.list hq
    exact wpAny_pyIter_list pl.isList ⟨_, _, _, _, H1, rfl, I1.kept (t' := s1.toks) (fun b o e => Heap.get?_push_of_some _ e), turn_list a _, ⟨_, Heap.get?_push_size _ rfl, rfl, rfl⟩, new, q⟩
  · obtain ⟨its, _, pt, _⟩ := I1.tuple hq
    exact wpAny_pyIter_tuple (items := its.toArray) pt ⟨_, _, _, _, H1, rfl, I1.kept (t' := s1.toks) (fun b o e => Heap.get?_push_of_some _ e), turn_tuple a _, ⟨_, Heap.get?_push_size _ rfl, rfl, rfl⟩, new, q⟩⟩
def itemsOf : D → Option (List D)
  | .lst xs => some xs
  | .tup xs => some xs
  | _ => none
def itemsM (f : M D) : M (List D) := bindM f fun d => liftM (itemsOf d)
theorem di_any {tg l : Expr} {f : M D} (hK : G.m = ⟨X.K, X.mg, X.w⟩) (h : DE X G W l f) : DI X G W tg l (itemsM f) := pi_imp (pi_any h) fun σ H R ⟨ρ, k, q⟩ => ⟨ρ, k, q.bind.mono fun d ρ1 H1 _ s1 k1 q1 v r => by
  have eK : G.m.K = X.K := by rw [hK]
  cases r with
  | lst hq rl => exact ⟨_, rfl, .inl ⟨⟨_, eK ▸ hq.sq⟩, q1 H1 Stable.rfl k1 _ (eK ▸ iter_list hq rl)⟩⟩
  | tup hq rl => exact ⟨_, rfl, .inr ⟨⟨_, eK ▸ hq⟩, q1 H1 Stable.rfl k1 _ (eK ▸ iter_tup hq rl)⟩⟩
  | _ => exact q1.elim⟩
def inRg (i : Int) : Bool := decide (-(2 ^ 62) ≤ i) && decide (i < 2 ^ 62)
def rg1 : List D → Option (List D)
  | [.int j] => if inRg j = true then some ((List.range j.toNat).map fun (i : Nat) => D.int (0 + (i : Int))) else none
  | _ => none
def rg2 : List D → Option (List D)
  | [.int i, .int j] => if inRg i = true ∧ inRg j = true then some ((List.range (j - i).toNat).map fun (k : Nat) => D.int (i + (k : Int))) else none
  | _ => none
def rg1M (f : M (List D)) : M (List D) := bindM f fun ds => liftM (rg1 ds)
def rg2M (f : M (List D)) : M (List D) := bindM f fun ds => liftM (rg2 ds)
theorem iter_range {m : Md} {H : Hp} {lo : Int} {n : Nat} : IterOk m H (Itr lo n) ((List.range n).map fun (k : Nat) => D.int (lo + (k : Int))) where
  stop := fun i H' s h => show n ≤ i by simpa using h
  go := fun i H' s h => show i < n by simpa using h
  yld := fun i H1 v H2 s hi h => by
    obtain ⟨e, e2⟩ := h
    subst e2
    have hi : i < n := by simpa using hi
    exact ⟨e, .int (lo + i), by simp [hi], .int _⟩
theorem inRg_iff {i : Int} (h : inRg i = true) : -(2 ^ 62) ≤ i ∧ i < 2 ^ 62 := by
  unfold inRg at h
  simpa using h
theorem rg1_inv {ds xs : List D} (h : rg1 ds = some xs) : ∃ j, ds = [.int j] ∧ inRg j = true ∧ xs = ((List.range j.toNat).map fun (i : Nat) => D.int (0 + (i : Int))) := by
  unfold rg1 at h
  split at h
  · split at h
    · rename_i j hb; cases h; exact ⟨_, rfl, hb, rfl⟩
    · cases h
  · cases h
theorem rg2_inv {ds xs : List D} (h : rg2 ds = some xs) : ∃ i j, ds = [.int i, .int j] ∧ inRg i = true ∧ inRg j = true ∧ xs = ((List.range (j - i).toNat).map fun (k : Nat) => D.int (i + (k : Int))) := by
  unfold rg2 at h
  split at h
  · split at h
    · rename_i hb; cases h; exact ⟨_, _, rfl, hb.1, hb.2, rfl⟩
    · cases h
  · cases h
theorem di_range1 {tg a : Expr} {f : M (List D)} {p : Pos} (hg : Gl X "range") (hm : X.mg "range" = none) (ha : DA X G W [a] f) (hs : starEach [a] X.env = [(false, eval a X.env)] := by rfl) : DI X G W tg (.Call (.Name "range" p) [a] [] pos) (rg1M f) :=
  pi_imp (pi_range1 hg hm ha hs) fun σ H R ⟨ρ, k, q⟩ => ⟨ρ, k, q.bind.mono fun ds ρ1 H1 _ s1 k1 q1 vs r => by
    obtain ⟨xs, e, q2⟩ := q1.lift k1
    obtain ⟨j, rfl, hb, rfl⟩ := rg1_inv e
    cases r with
    | cons r0 r =>
      cases r
      cases r0
      exact ⟨j, rfl, (inRg_iff hb).1, (inRg_iff hb).2, q2 H1 Stable.rfl k1 _ iter_range⟩⟩
theorem di_range2 {tg a b : Expr} {f : M (List D)} {p : Pos} (hg : Gl X "range") (hm : X.mg "range" = none) (ha : DA X G W [a, b] f) (hs : starEach [a, b] X.env = [(false, eval a X.env), (false, eval b X.env)] := by rfl) (hs2 : starEach [b] X.env = [(false, eval b X.env)] := by rfl) : DI X G W tg (.Call (.Name "range" p) [a, b] [] pos) (rg2M f) :=
  pi_imp (pi_range2 hg hm ha hs hs2) fun σ H R ⟨ρ, k, q⟩ => ⟨ρ, k, q.bind.mono fun ds ρ1 H1 _ s1 k1 q1 vs r => by
    obtain ⟨xs, e, q2⟩ := q1.lift k1
    obtain ⟨i, j, rfl, hi, hj, rfl⟩ := rg2_inv e
    cases r with
    | cons r0 r =>
      cases r with
      | cons r1 r =>
        cases r
        cases r0
        cases r1
        exact ⟨i, j, rfl, ⟨(inRg_iff hi).1, (inRg_iff hi).2, (inRg_iff hj).1, (inRg_iff hj).2⟩, q2 H1 Stable.rfl k1 _ iter_range⟩⟩

/-! ### for -/
def forM (tg : TgF) (body : MS) : List D → MS
  | [] => skipM
  | x :: xs => fun ρ => match tg x ρ with
    | none => .stuck
    | some ρ1 => match body ρ1 with
      | .ok .nx ρ2 => forM tg body xs ρ2
      | .ok .ct ρ2 => forM tg body xs ρ2
      | .ok .brk ρ2 => .ok .nx ρ2
      | r => r
def forD (it : M (List D)) (tg : TgF) (body : MS) : MS := bindM it fun xs => forM tg body xs
theorem ds_for {tg iter : Expr} {body : List Stmt} {f : M (List D)} {js : List Nat} {t : TgF} {b : MS} (hp : PassesOwn (model X.prog X.w) X.A X.env X.xe) (hc : X.calm = true) (hi : DI X G W tg iter f) (hg : DGt X G tg js t) (hb : DSs X G W rm body b)
    (hs : ∀ x, foldedSetIterable iter X.env x = pure x := by intro _; rfl) : DS X G W rm (.For tg iter body [] pos) (forD f t b) :=
  ps_imp (ps_for hp hc hi hg hb hs) fun E σ H ⟨ρ, k, q⟩ => ⟨ρ, k, q.bind.mono fun xs ρ1 H1 _ s1 k1 q1 J io => by
    refine ⟨fun i m σ' H' => m = xs.length - i ∧ i ≤ xs.length ∧ Stable H1 H' ∧ ∃ ρ', StOk G σ' H' ρ' ∧ postS G W rm H' (forM t b (xs.drop i) ρ') E, ⟨_, rfl, Nat.zero_le _, Stable.rfl, ρ1, k1, q1⟩, ?_⟩
    rintro i m σ' H' ⟨rfl, hi, st, ρ', k', q'⟩
    by_cases hlt : i < xs.length
    · refine .inr ⟨io.go i H' st hlt, fun σ2 H2 => Stable H1 H2 ∧ ∃ ρ2, StOk G σ2 H2 ρ2 ∧ postS G W rm H2 (forM t b (xs.drop (i + 1)) ρ2) E, fun σ2 H2 ⟨w1, w2⟩ => ⟨xs.length - (i + 1), by omega, rfl, hlt, w1, w2⟩, fun v H2 y => ?_⟩
      obtain ⟨e, d, hd, rd⟩ := io.yld i H' v H2 st hlt y
      subst e
      have ed : xs.drop i = d :: xs.drop (i + 1) := by
        rw [List.drop_eq_getElem_cons hlt]
        rw [List.getElem?_eq_getElem hlt] at hd
        injection hd with hd
        rw [hd]
      rw [ed] at q'
      unfold forM at q'
      cases e1 : t d ρ' with
      | none => simp only [e1] at q'; exact q'.elim
      | some ρ2 =>
        simp only [e1] at q'
        refine ⟨ρ', d, ρ2, k', rd, e1, fun σ3 H3 _ s3 k3 => ⟨ρ2, k3, ?_⟩⟩
        cases e2 : b ρ2 with
        | ok fl ρ4 =>
          simp only [e2] at q'
          cases fl with
          | nx => exact fun σ5 H5 s5 k5 => ⟨st.trans (s3.trans s5), ρ4, k5, q'.from (s3.trans s5)⟩
          | ct => exact fun σ5 H5 s5 k5 => ⟨st.trans (s3.trans s5), ρ4, k5, q'.from (s3.trans s5)⟩
          | brk => exact fun σ5 H5 s5 k5 => q' σ5 H5 (s3.trans s5) k5
          | ret d => exact fun v σ5 H5 s5 k5 => q' v σ5 H5 (s3.trans s5) k5
        | exc c ρ4 =>
          simp only [e2] at q'
          exact fun σ5 C H5 e5 s5 k5 => q' σ5 C H5 e5 (s3.trans s5) k5
        | stuck => simp only [e2] at q'; exact q'.elim
    · have e : i = xs.length := by omega
      subst e
      rw [List.drop_length] at q'
      exact .inl ⟨io.stop _ H' st (Nat.le_refl _), q' σ' H' Stable.rfl k'⟩⟩

/-! ### while: n turns at most -/
def whileM (c : M Bool) (body : MS) : Nat → MS
  | 0 => fun _ => .stuck
  | n + 1 => bindM c fun b => match b with
    | false => skipM
    | true => fun ρ1 => match body ρ1 with
      | .ok .nx ρ2 => whileM c body n ρ2
      | .ok .ct ρ2 => whileM c body n ρ2
      | .ok .brk ρ2 => .ok .nx ρ2
      | r => r
/-! ### raise -/
def raiseM (c : Str) : MS := fun ρ => .exc c ρ
theorem ds_raise {x z : Str} {j : Nat} {C : Addr} {p p2 pos2 : Pos} (hK : G.m = ⟨X.K, X.mg, X.w⟩) (hc : X.calm = true) (tk : Takes X W) (q : PySem.W.excIn X.K C He.veBase "ValueError.__new__" = true) (gC : X.mg x = some (.ref C)) (kC : PySem.W.keepIn X.K (.ref C) = true) (r : Raises X (.ref C)) (hg : Gl X x) (hdb : (x == ("__debug__" : Str)) = false := by decide) :
    DS X G W rm (.Raise (some (.Call (.Name x p) [.Constant (.str z) j p2] [] pos)) none pos2) (raiseM x) :=
  ps_imp (ps_raise hc tk (pmk_own PySem.F.excBase_ValueError q gC kC r hg hdb)) fun E σ H ⟨ρ, k, h⟩ => h σ C H (by rw [hK]; exact gC) Stable.rfl k
end
end DL
end
section
namespace DL
open PySem PySem.Spec L2
open PyProof.Rows hiding St

/-! ### slots forgotten and put back -/
def plain : Sl → Bool
  | .no => true
  | .d _ => true
  | _ => false
def plainB (vs : List Nat) (ρ : DL.Env) : Bool := vs.all fun v => plain (ρ.getD v .no)
def wipeE (ρ : DL.Env) : List Nat → DL.Env
  | [] => ρ
  | v :: vs => (wipeE ρ vs).set v .no
def restE (ρ ρ' : DL.Env) : List Nat → DL.Env
  | [] => ρ'
  | v :: vs => (restE ρ ρ' vs).set v (ρ.getD v .no)
theorem wipe_get (σ : L2.St) (j : Nat) : ∀ vs : List Nat, (wipe σ vs)[j]? = if j ∈ vs then (σ[j]?.map fun _ => none) else σ[j]?
  | [] => by simp [wipe]
  | v :: vs => by
    unfold wipe
    by_cases e : v = j
    · subst e
      rw [List.getElem?_set_self', wipe_get σ v vs]
      by_cases h : v ∈ vs <;> simp [h] <;> cases σ[v]? <;> rfl
    · rw [List.getElem?_set_ne e, wipe_get σ j vs]
      have e' : j ≠ v := fun z => e z.symm
      simp [e']
theorem wipeE_len (ρ : DL.Env) : ∀ vs : List Nat, (wipeE ρ vs).length = ρ.length
  | [] => rfl
  | v :: vs => by unfold wipeE; rw [List.length_set, wipeE_len ρ vs]
theorem wipeE_get (ρ : DL.Env) (j : Nat) : ∀ vs : List Nat, (wipeE ρ vs)[j]? = if j ∈ vs then (ρ[j]?.map fun _ => Sl.no) else ρ[j]?
  | [] => by simp [wipeE]
  | v :: vs => by
    unfold wipeE
    by_cases e : v = j
    · subst e
      rw [List.getElem?_set_self', wipeE_get ρ v vs]
      by_cases h : v ∈ vs <;> simp [h] <;> cases ρ[v]? <;> rfl
    · rw [List.getElem?_set_ne e, wipeE_get ρ j vs]
      have e' : j ≠ v := fun z => e z.symm
      simp [e']
theorem restE_len (ρ ρ' : DL.Env) : ∀ vs : List Nat, (restE ρ ρ' vs).length = ρ'.length
  | [] => rfl
  | v :: vs => by unfold restE; rw [List.length_set, restE_len ρ ρ' vs]
theorem restE_get (ρ ρ' : DL.Env) (hl : ρ.length = ρ'.length) (j : Nat) : ∀ vs : List Nat, (restE ρ ρ' vs)[j]? = if j ∈ vs then ρ[j]? else ρ'[j]?
  | [] => by simp [restE]
  | v :: vs => by
    unfold restE
    by_cases e : v = j
    · subst e
      by_cases hj : v < ρ.length
      · rw [List.getElem?_set_self (by rw [restE_len, ← hl]; exact hj)]
        simp [List.getD_eq_getElem?_getD, List.getElem?_eq_getElem hj]
      · rw [List.getElem?_eq_none (by rw [List.length_set, restE_len, ← hl]; omega)]
        simp [List.getElem?_eq_none (Nat.le_of_not_lt hj)]
    · rw [List.getElem?_set_ne e, restE_get ρ ρ' hl j vs]
      have e' : j ≠ v := fun z => e z.symm
      simp [e']
theorem plain_at {vs : List Nat} {ρ : DL.Env} (h : plainB vs ρ = true) {j : Nat} (hj : j ∈ vs) {s : Sl} (e : ρ[j]? = some s) : plain s = true := by
  have := List.all_eq_true.mp h j hj
  rw [List.getD_eq_getElem?_getD, e] at this
  exact this
theorem wipe_same {js vs : List Nat} {σ σ2 : L2.St} (hs : ∀ j ∈ js, j ∈ vs) (h : SameBut js (wipe σ vs) σ2) : wipe σ2 vs = wipe σ vs := by
  apply List.ext_getElem?
  intro j
  rw [wipe_get, wipe_get]
  by_cases hj : j ∈ vs
  · simp only [hj, if_true]
    have hl : σ2.length = σ.length := by rw [h.1, wipe_length]
    by_cases hlt : j < σ.length
    · rw [List.getElem?_eq_getElem hlt, List.getElem?_eq_getElem (by rw [hl]; exact hlt)]; rfl
    · rw [List.getElem?_eq_none (by omega), List.getElem?_eq_none (by omega)]
  · simp only [hj, if_false]
    have := h.2 j (fun z => hj (hs j z))
    rw [this, wipe_get]; simp [hj]
section
variable {G : Gh} {σ : L2.St} {H H' : Hp} {ρ ρ' : DL.Env} {vs : List Nat}
theorem StOk.wipe (k : StOk G σ H ρ) (hp : plainB vs ρ = true) : StOk G (L2.wipe σ vs) H (wipeE ρ vs) := by
  have nin : ∀ {j : Nat} {s : Sl}, (wipeE ρ vs)[j]? = some s → s ≠ .no → j ∉ vs ∧ ρ[j]? = some s := fun {j s} h hs => by
    rw [wipeE_get] at h
    by_cases hj : j ∈ vs
    · simp only [hj, if_true] at h
      cases e : ρ[j]? with
      | none => rw [e] at h; cases h
      | some t => rw [e] at h; simp at h; exact absurd h.symm hs
    · simp only [hj, if_false] at h; exact ⟨hj, h⟩
  have sg : ∀ {j : Nat}, j ∉ vs → (L2.wipe σ vs)[j]? = σ[j]? := fun {j} hj => by rw [wipe_get]; simp [hj]
  refine ⟨by rw [wipe_length, wipeE_len, k.len], fun i x h => ?_, fun i xs h => ?_, fun i j xs ys b ne h1 h2 h3 => ?_, fun p hpm => ?_, k.keep, fun i c h => ?_⟩
  · obtain ⟨n1, h⟩ := nin h (fun z => by cases z)
    rw [sg n1]; exact k.dat i x h
  · obtain ⟨n1, h⟩ := nin h (fun z => by cases z)
    rw [sg n1]; exact k.own i xs h
  · obtain ⟨n1, h1⟩ := nin h1 (fun z => by cases z)
    obtain ⟨n2, h2⟩ := nin h2 (fun z => by cases z)
    rw [sg n1] at h3
    rw [sg n2]; exact k.sep i j xs ys b ne h1 h2 h3
  · obtain ⟨q1, xs, q2⟩ := k.prot p hpm
    have n1 : p.1 ∉ vs := fun z => by have := plain_at hp z q2; simp [plain] at this
    exact ⟨by rw [sg n1]; exact q1, xs, by rw [wipeE_get]; simp [n1, q2]⟩
  · obtain ⟨n1, h⟩ := nin h (fun z => by cases z)
    rw [sg n1]; exact k.exn i c h
theorem StOk.rest (k : StOk G σ H ρ) (hp : plainB vs ρ = true) (st : Stable H H') (k' : StOk G (L2.wipe σ vs) H' ρ') : StOk G σ H' (restE ρ ρ' vs) := by
  have hl : ρ.length = ρ'.length := by rw [← k.len, ← k'.len, wipe_length]
  have sg : ∀ {j : Nat}, j ∉ vs → (L2.wipe σ vs)[j]? = σ[j]? := fun {j} hj => by rw [wipe_get]; simp [hj]
  have at_ : ∀ {j : Nat} {s : Sl}, (restE ρ ρ' vs)[j]? = some s → (j ∈ vs ∧ ρ[j]? = some s ∧ plain s = true) ∨ (j ∉ vs ∧ ρ'[j]? = some s) := fun {j s} h => by
    rw [restE_get ρ ρ' hl] at h
    by_cases hj : j ∈ vs
    · simp only [hj, if_true] at h; exact .inl ⟨hj, h, plain_at hp hj h⟩
    · simp only [hj, if_false] at h; exact .inr ⟨hj, h⟩
  refine ⟨by rw [restE_len, ← hl, k.len], fun i x h => ?_, fun i xs h => ?_, fun i j xs ys b ne h1 h2 h3 => ?_, fun p hpm => ?_, k'.keep, fun i c h => ?_⟩
  · rcases at_ h with ⟨_, h, _⟩ | ⟨n, h⟩
    · obtain ⟨v, h1, h2⟩ := k.dat i x h
      exact ⟨v, h1, h2.st st⟩
    · have := k'.dat i x h
      rw [sg n] at this; exact this
  · rcases at_ h with ⟨_, _, e⟩ | ⟨n, h⟩
    · simp [plain] at e
    · have := k'.own i xs h
      rw [sg n] at this; exact this
  · rcases at_ h1 with ⟨_, _, e⟩ | ⟨n1, h1⟩
    · simp [plain] at e
    rcases at_ h2 with ⟨_, _, e⟩ | ⟨n2, h2⟩
    · simp [plain] at e
    have := k'.sep i j xs ys b ne h1 h2 (by rw [sg n1]; exact h3)
    rw [sg n2] at this; exact this
  · obtain ⟨q1, xs, q2⟩ := k.prot p hpm
    obtain ⟨_, ys, q3⟩ := k'.prot p hpm
    have n1 : p.1 ∉ vs := fun z => by have := plain_at hp z q2; simp [plain] at this
    exact ⟨q1, ys, by rw [restE_get ρ ρ' hl]; simp [n1, q3]⟩
  · rcases at_ h with ⟨_, _, e⟩ | ⟨n, h⟩
    · simp [plain] at e
    · have := k'.exn i c h
      rw [sg n] at this; exact this
end
/-- a place more that stands as it stood -/
def Gh.add (G : Gh) (p : Addr) (o : HO) : Gh := { G with H0 := upd G.H0 p o }
section
variable {G : Gh} {σ : L2.St} {H H' : Hp} {ρ : DL.Env} {p : Addr} {o : HO}
theorem StOk.add (k : StOk G σ H ρ) (f : Fresh G σ ρ p) (h : H p = some o) : StOk (G.add p o) σ H ρ where
  len := k.len
  dat := k.dat
  own := fun i xs e => by
    obtain ⟨a, ws, h1, h2, h3, h4⟩ := k.own i xs e
    refine ⟨a, ws, h1, h2, h3, fun c => ⟨?_, (h4 c).2⟩⟩
    show L2.upd G.H0 p o a = none
    rw [upd_ne (fun z => f.2.2 i xs e (by rw [← z]; exact h1))]
    exact (h4 c).1
  sep := k.sep
  prot := k.prot
  keep := fun b u e n => by
    have e : L2.upd G.H0 p o b = some u := e
    by_cases z : b = p
    · subst z; rw [upd_same] at e; cases e; exact h
    · rw [upd_ne z] at e; exact k.keep b u e n
  exn := k.exn
theorem StOk.unadd (k : StOk (G.add p o) σ H ρ) (h0 : G.H0 p = none) (hp : ∀ q ∈ G.pr, q.2 ≠ p) : StOk G σ H ρ ∧ Fresh G σ ρ p ∧ H p = some o := by
  refine ⟨⟨k.len, k.dat, fun i xs e => ?_, k.sep, k.prot, fun b u e n => ?_, k.exn⟩, ⟨h0, hp, fun i xs e z => ?_⟩, ?_⟩
  · obtain ⟨a, ws, h1, h2, h3, h4⟩ := k.own i xs e
    refine ⟨a, ws, h1, h2, h3, fun c => ⟨?_, (h4 c).2⟩⟩
    have q : L2.upd G.H0 p o a = none := (h4 c).1
    by_cases z : a = p
    · subst z; exact h0
    · rw [upd_ne z] at q; exact q
  · have z : b ≠ p := fun z => by subst z; rw [h0] at e; cases e
    exact k.keep b u (by show L2.upd G.H0 p o b = some u; rw [upd_ne z]; exact e) n
  · obtain ⟨a, ws, h1, h2, h3, h4⟩ := k.own i xs e
    rw [z] at h1; cases h1
    by_cases c : ∀ q ∈ G.pr, q.1 ≠ i
    · have q : L2.upd G.H0 p o p = none := (h4 c).1
      rw [upd_same] at q; cases q
    · apply c
      intro q hq w
      obtain ⟨q1, _⟩ := k.prot q hq
      rw [w, z] at q1
      injection q1 with q1; injection q1 with q1; injection q1 with q1
      exact hp q hq q1.symm
  · exact k.keep p o (by show L2.upd G.H0 p o p = some o; rw [upd_same]) hp
theorem postG.reG {G' : Gh} {W : WX} {α : Type} {r : Res α} {Q : α → DL.Env → Hp → Prop} (hm : G'.m = G.m) (hk : ∀ H' ρ, StOk G' σ H' ρ → StOk G σ H' ρ) (h : postG G W σ H r Q) : postG G' W σ H r fun a ρ H' => Q a ρ H' ∧ StOk G' σ H' ρ := by
  cases r with
  | ok a ρ => exact fun H' s k => ⟨h H' s (hk H' ρ k), k⟩
  | exc c ρ => exact fun C H' e s k => h C H' (by rw [← hm]; exact e) s (hk H' ρ k)
  | stuck => exact h
end

/-! ### comprehensions -/
def DTs (X : Cx) (G : Gh) (W : WX) (ifs : List Expr) (f : M Bool) : Prop := PTs X ifs (tT G W f)
theorem pts_imp {X : Cx} {e : List Expr} {t t' : TT} (h : PTs X e t) (k : ∀ σ H Q, t' σ H Q → t σ H Q) : PTs X e t' := ⟨fun pins s σ H Q I q => h.run pins s σ H Q I (k σ H Q q)⟩
theorem dts_nil {X : Cx} {G : Gh} {W : WX} : DTs X G W [] (pureM true) := pts_imp pts_nil fun σ H Q ⟨ρ, k, q⟩ => q H Stable.rfl k
theorem dts_one {X : Cx} {G : Gh} {W : WX} {c : Expr} {f : M Bool} (h : DT X G W c f) : DTs X G W [c] f := pts_imp (pts_one h) fun σ H Q h => h
/-- one item: what becomes of the list made so far -/
def itemM (tt : M Bool) (te : M D) (acc : List D) : M (List D) := bindM tt fun b => match b with
  | false => pureM acc
  | true => bindM te fun y => if acc.length < sizeLine then pureM (acc ++ [y]) else stuckM
def compGo (tg : TgF) (tt : M Bool) (te : M D) (vs : List Nat) : List D → List D → M (List D)
  | acc, [] => pureM acc
  | acc, x :: xs => fun ρ => match tg x ρ with
    | none => .stuck
    | some ρ1 => match itemM tt te acc ρ1 with
      | .ok acc' ρ2 => if plainB vs ρ2 = true then compGo tg tt te vs acc' xs (wipeE ρ2 vs) else .stuck
      | _ => .stuck
def compO (it : M (List D)) (tg : TgF) (tt : M Bool) (te : M D) (vs : List Nat) : M (List D) := bindM it fun xs ρ => if plainB vs ρ = true then (match compGo tg tt te vs [] xs (wipeE ρ vs) with
  | .ok ys ρ' => .ok ys (restE ρ ρ' vs)
  | _ => .stuck) else .stuck
theorem Fresh.of {G : Gh} {σ σ' : L2.St} {ρ ρ' : DL.Env} {p : Addr} (f : Fresh G σ ρ p) (h : ∀ (i : Nat) (xs : OC), ρ'[i]? = some (.cell xs) → σ'[i]? = some (some (.ref p)) → ∃ ys, ρ[i]? = some (.cell ys) ∧ σ[i]? = some (some (.ref p))) : Fresh G σ' ρ' p :=
  ⟨f.1, f.2.1, fun i xs e z => by obtain ⟨ys, e1, e2⟩ := h i xs e z; exact f.2.2 i ys e1 e2⟩
theorem bindM_ok {α β : Type} {a : M α} {k : α → M β} {ρ ρ' : DL.Env} {y : β} (h : bindM a k ρ = .ok y ρ') : ∃ x ρ1, a ρ = .ok x ρ1 ∧ k x ρ1 = .ok y ρ' := by
  unfold bindM at h
  cases e : a ρ with
  | ok x ρ1 => rw [e] at h; exact ⟨x, ρ1, rfl, h⟩
  | exc c ρ1 => rw [e] at h; cases h
  | stuck => rw [e] at h; cases h
theorem itemM_inv {tt : M Bool} {te : M D} {acc acc' : List D} {ρ ρ' : DL.Env} (h : itemM tt te acc ρ = .ok acc' ρ') : ∃ b ρ1, tt ρ = .ok b ρ1 ∧ ((b = false ∧ acc' = acc ∧ ρ' = ρ1) ∨ (b = true ∧ ∃ y, te ρ1 = .ok y ρ' ∧ acc.length < sizeLine ∧ acc' = acc ++ [y])) := by
  obtain ⟨b, ρ1, e, h⟩ := bindM_ok h
  cases b with
  | false => cases h; exact ⟨false, _, e, .inl ⟨rfl, rfl, rfl⟩⟩
  | true =>
    obtain ⟨y, ρ2, e2, h⟩ := bindM_ok h
    by_cases hz : acc.length < sizeLine
    · simp only [hz, if_true] at h; cases h; exact ⟨true, ρ1, e, .inr ⟨rfl, y, e2, hz, rfl⟩⟩
    · simp only [hz, if_false] at h; cases h
section
variable {X : Cx} {G : Gh} {W : WX}
/-- the ghost context with another entry heap -/
abbrev Gh.at (G : Gh) (H : Hp) : Gh := ⟨G.m, H, G.pr, G.ex⟩
theorem lc_read {elt tg iter : Expr} {ifs : List Expr} {scope : Scope} {own : List (Str × Nat)} {fi : M (List D)} {js : List Nat} {t : TgF} {tt : M Bool} {te : M D} (hc : X.calm = true) (hN : X.N.Nodup) (hi : DI X G W tg iter fi) (ok : BlkOk X.N X.env.scope scope own) (hjs : js.all (fun j => (own.map (·.2)).contains j) = true)
    (hg : ∀ (h : Hp) (s : Shared) (H : Hp) (C : Addr) (cl : List (Str × Addr)) (fp : List Addr), DGt (X.blk s H scope (compEnvC scope cl C X.env) fp) (G.at h) tg js t)
    (ht : ∀ (h : Hp) (s : Shared) (H : Hp) (C : Addr) (cl : List (Str × Addr)) (fp : List Addr), DTs (X.blk s H scope (compEnvC scope cl C X.env) fp) (G.at h) W0 ifs tt)
    (he : ∀ (h : Hp) (s : Shared) (H : Hp) (C : Addr) (cl : List (Str × Addr)) (fp : List Addr), DE (X.blk s H scope (compEnvC scope cl C X.env) fp) (G.at h) W0 elt te) :
    ∃ wi g tt' te', PI X tg iter wi ∧ (∀ (s : Shared) (H : Hp) (C : Addr) (cl : List (Str × Addr)) (fp : List Addr), PG (X.blk s H scope (compEnvC scope cl C X.env) fp) tg g) ∧ (∀ (s : Shared) (H : Hp) (C : Addr) (cl : List (Str × Addr)) (fp : List Addr), PTs (X.blk s H scope (compEnvC scope cl C X.env) fp) ifs tt') ∧
      (∀ (s : Shared) (H : Hp) (C : Addr) (cl : List (Str × Addr)) (fp : List Addr), PE (X.blk s H scope (compEnvC scope cl C X.env) fp) elt te') ∧ ∀ σ H Q, oT G W (compO fi t tt te (own.map (·.2))) σ H Q → tLc wi g tt' te' (own.map (·.2)) σ H Q := by
  have hjs' : ∀ j ∈ js, j ∈ own.map (·.2) := fun j hj => by simpa using List.all_eq_true.mp hjs j hj
  generalize hvs : own.map (·.2) = vs at hjs'
  refine ⟨_, fun v σ H Q => ∃ h, tgT (G.at h) js t v σ H Q, fun σ H Q => ∃ h, tT (G.at h) W0 tt σ H Q, fun σ H Q => ∃ h, dT (G.at h) W0 te σ H Q, hi,
    (fun s H C cl fp => ⟨fun pins s' σ H' v u Q I r ⟨h, q⟩ => (hg h s H C cl fp).run pins s' σ H' v u Q I r q⟩),
    (fun s H C cl fp => ⟨fun pins s' σ H' Q I ⟨h, q⟩ => (ht h s H C cl fp).run pins s' σ H' Q I q⟩),
    (fun s H C cl fp => ⟨fun pins s' σ H' Q I ⟨h, q⟩ => (he h s H C cl fp).run pins s' σ H' Q I q⟩), fun σ H Q ⟨ρ, k, q⟩ => ?_⟩
  refine ⟨ρ, k, q.bind.mono fun xs ρ1 H1 _ s1 k1 q1 J io => fun Dn hD => ?_⟩
  by_cases hpl : plainB vs ρ1 = true
  · simp only [hpl, if_true] at q1
    have gr := Grow.new (o := .lst []) hD
    have k2 := (k1.grow gr).wipe hpl
    have fr : Fresh G σ ρ1 Dn := k1.fresh hD
    have sgw : ∀ {j : Nat}, j ∉ vs → (L2.wipe σ vs)[j]? = σ[j]? := fun {j} hj => by rw [wipe_get]; simp [hj]
    refine ⟨fun i n H' => n = xs.length - i ∧ i ≤ xs.length ∧ Stable H1 H' ∧ ∃ ρ' acc ws, StOk G (L2.wipe σ vs) H' ρ' ∧ Fresh G (L2.wipe σ vs) ρ' Dn ∧ H' Dn = some (.lst ws) ∧ RepL G.m H' ws acc ∧ (∀ j ∈ vs, ∀ us, ρ'[j]? ≠ some (.cell us)) ∧
        postG G W σ H1 (match compGo t tt te vs acc (xs.drop i) ρ' with | .ok ys ρ' => .ok ys (restE ρ1 ρ' vs) | _ => .stuck) (fun ds ρ' H' => ∀ a vs, H' a = some (.lst vs) → RepL G.m H' vs ds → Fresh G σ ρ' a → Q (.ref a) H'), ⟨_, rfl, Nat.zero_le _, gr.stable, _, [], [], k2, ?_, upd_same, .nil, ?_, ?_⟩, ?_⟩
    · refine fr.of fun i us h z => ?_
      rw [wipeE_get] at h
      by_cases hj : i ∈ vs
      · simp only [hj, if_true] at h
        cases e : ρ1[i]? <;> rw [e] at h <;> simp at h
      · simp only [hj, if_false] at h
        exact ⟨us, h, by rw [← sgw hj]; exact z⟩
    · intro j hj us h
      rw [wipeE_get] at h
      simp only [hj, if_true] at h
      cases e : ρ1[j]? <;> rw [e] at h <;> simp at h
    · rw [List.drop_zero]; exact q1
    · rintro i n H' ⟨rfl, hi', st, ρ', acc, ws, kk, fr', hDn, rl, nov, qq⟩
      by_cases hlt : i < xs.length
      · refine .inr ⟨io.go i H' st hlt, fun H2 => Stable H1 H2 ∧ ∃ ρ' acc ws, StOk G (L2.wipe σ vs) H2 ρ' ∧ Fresh G (L2.wipe σ vs) ρ' Dn ∧ H2 Dn = some (.lst ws) ∧ RepL G.m H2 ws acc ∧ (∀ j ∈ vs, ∀ us, ρ'[j]? ≠ some (.cell us)) ∧
          postG G W σ H1 (match compGo t tt te vs acc (xs.drop (i + 1)) ρ' with | .ok ys ρ' => .ok ys (restE ρ1 ρ' vs) | _ => .stuck) (fun ds ρ' H' => ∀ a vs, H' a = some (.lst vs) → RepL G.m H' vs ds → Fresh G σ ρ' a → Q (.ref a) H'), fun H2 w => ⟨xs.length - (i + 1), by omega, rfl, hlt, w⟩, fun v H2 y => ?_⟩
        obtain ⟨e, d, hd, rd⟩ := io.yld i H' v H2 st hlt y
        rw [e]
        have ed : xs.drop i = d :: xs.drop (i + 1) := by
          rw [List.drop_eq_getElem_cons hlt]
          rw [List.getElem?_eq_getElem hlt] at hd
          injection hd with hd
          rw [hd]
        rw [ed] at qq
        unfold compGo at qq
        cases e1 : t d ρ' with
        | none => simp only [e1] at qq; exact qq.elim
        | some ρ2 =>
          simp only [e1] at qq
          cases e2 : itemM tt te acc ρ2 with
          | exc c ρ3 => simp only [e2] at qq; exact qq.elim
          | stuck => simp only [e2] at qq; exact qq.elim
          | ok acc' ρ3 =>
            simp only [e2] at qq
            by_cases hp3 : plainB vs ρ3 = true
            · simp only [hp3, if_true] at qq
              refine ⟨(G.add Dn (.lst ws)).H0, ρ', d, ρ2, kk.add fr' hDn, rd, e1, fun σ2 H2 sb s2 k2' => ?_⟩
              have ws2 := wipe_same hjs' sb
              obtain ⟨b, ρ4, e3, e4⟩ := itemM_inv e2
              have novw : ∀ j ∈ vs, ∀ us, (wipeE ρ3 vs)[j]? ≠ some (.cell us) := fun j hj us h => by
                rw [wipeE_get] at h
                simp only [hj, if_true] at h
                cases e : ρ3[j]? <;> rw [e] at h <;> simp at h
              have frw : ∀ {H5 : Hp}, Fresh G σ2 ρ3 Dn → Fresh G (L2.wipe σ vs) (wipeE ρ3 vs) Dn := fun {H5} f => by
                rw [← ws2]
                refine f.of fun i us h z => ?_
                rw [wipeE_get] at h
                by_cases hj : i ∈ vs
                · simp only [hj, if_true] at h
                  cases e : ρ3[i]? <;> rw [e] at h <;> simp at h
                · simp only [hj, if_false] at h
                  exact ⟨us, h, (wipe_some z).1⟩
              refine ⟨ws2, (G.add Dn (.lst ws)).H0, ρ2, k2', ?_⟩
              rw [e3]
              intro H3 s3 k3
              rcases e4 with ⟨rfl, rfl, rfl⟩ | ⟨rfl, yv, e5, hz, rfl⟩
              · rw [if_neg (by decide)]
                obtain ⟨k4, f4, h4⟩ := k3.unadd fr.1 fr.2.1
                have k5 := k4.wipe hp3
                rw [ws2] at k5
                exact ⟨st.trans (s2.trans s3), _, _, ws, k5, frw (H5 := H3) f4, h4, rl.st (s2.trans s3), novw, qq⟩
              · rw [if_pos rfl]
                refine ⟨(G.add Dn (.lst ws)).H0, ρ4, k3, ?_⟩
                rw [e5]
                intro H4 s4 k4 v4 r4
                obtain ⟨k5, f5, h5⟩ := k4.unadd fr.1 fr.2.1
                have su : Stable H4 (upd H4 Dn (.lst (ws ++ [v4]))) := Stable.upd h5 id
                have k6 := (k5.upd (o := .lst (ws ++ [v4])) f5 fun u hu => nfix_of h5 id hu).wipe hp3
                rw [ws2] at k6
                have s4' : Stable H' H4 := s2.trans (s3.trans s4)
                exact ⟨ws, h5, by rw [rl.len]; exact hz, st.trans (s4'.trans su), _, _, _, k6, frw (H5 := H4) f5, upd_same, (rl.st (s4'.trans su)).append (.cons (r4.st su) .nil), novw, qq⟩
            · simp only [hp3] at qq; exact qq.elim
      · have e : i = xs.length := by omega
        subst e
        rw [List.drop_length] at qq
        refine .inl ⟨io.stop _ H' st (Nat.le_refl _), ?_⟩
        have hl : ρ1.length = ρ'.length := by rw [← k1.len, ← kk.len, wipe_length]
        refine qq H' st (k1.rest hpl st kk) Dn ws hDn rl (fr'.of fun i us h z => ?_)
        rw [restE_get ρ1 ρ' hl] at h
        by_cases hj : i ∈ vs
        · simp only [hj, if_true] at h
          have := plain_at hpl hj h
          simp [plain] at this
        · simp only [hj, if_false] at h
          exact ⟨us, h, by rw [sgw hj]; exact z⟩
  · simp only [hpl] at q1; exact q1.elim
theorem do_lc {elt tg iter : Expr} {ifs : List Expr} {scope : Scope} {own : List (Str × Nat)} {pos : Pos} {fi : M (List D)} {js : List Nat} {t : TgF} {tt : M Bool} {te : M D} (hc : X.calm = true) (hN : X.N.Nodup) (hi : DI X G W tg iter fi) (ok : BlkOk X.N X.env.scope scope own) {vs : List Nat} (hvs : own.map (·.2) = vs) (hjs : js.all (fun j => (own.map (·.2)).contains j) = true)
    (hg : ∀ (h : Hp) (s : Shared) (H : Hp) (C : Addr) (cl : List (Str × Addr)) (fp : List Addr), DGt (X.blk s H scope (compEnvC scope cl C X.env) fp) (G.at h) tg js t)
    (ht : ∀ (h : Hp) (s : Shared) (H : Hp) (C : Addr) (cl : List (Str × Addr)) (fp : List Addr), DTs (X.blk s H scope (compEnvC scope cl C X.env) fp) (G.at h) W0 ifs tt)
    (he : ∀ (h : Hp) (s : Shared) (H : Hp) (C : Addr) (cl : List (Str × Addr)) (fp : List Addr), DE (X.blk s H scope (compEnvC scope cl C X.env) fp) (G.at h) W0 elt te) (hs : ∀ x, foldedSetIterable iter X.env x = pure x := by intro _; rfl) :
    DO X G W (.ListComp elt [⟨tg, iter, ifs, 0⟩] scope pos) (compO fi t tt te vs) := by
  subst hvs
  obtain ⟨wi, g, tt', te', h1, h2, h3, h4, h5⟩ := lc_read hc hN hi ok hjs hg ht he
  exact pe_imp (pe_lc hc hN h1 ok h2 h3 h4 hs) h5
/-- name = [..] -/
theorem ds_setLc (i : Nat) {rm : RM} {y : Str} {py : Pos} {elt tg iter : Expr} {ifs : List Expr} {scope : Scope} {own : List (Str × Nat)} {pos spos : Pos} {fi : M (List D)} {js : List Nat} {t : TgF} {tt : M Bool} {te : M D} (hp : pfree G i) (hc : X.calm = true) (hN : X.N.Nodup) (hy : X.N[i]? = some y) (hyl : X.env.scope.names.lookup y = some .local)
    (hsw : swapsWith (.ListComp elt [⟨tg, iter, ifs, 0⟩] scope pos) (some (.Name y py)) spos.line X.env = pure true) (hi : DI X G W tg iter fi) (ok : BlkOk X.N X.env.scope scope own) {vs : List Nat} (hvs : own.map (·.2) = vs) (hjs : js.all (fun j => (own.map (·.2)).contains j) = true)
    (hg : ∀ (h : Hp) (s : Shared) (H : Hp) (C : Addr) (cl : List (Str × Addr)) (fp : List Addr), DGt (X.blk s H scope (compEnvC scope cl C X.env) fp) (G.at h) tg js t)
    (ht : ∀ (h : Hp) (s : Shared) (H : Hp) (C : Addr) (cl : List (Str × Addr)) (fp : List Addr), DTs (X.blk s H scope (compEnvC scope cl C X.env) fp) (G.at h) W0 ifs tt)
    (he : ∀ (h : Hp) (s : Shared) (H : Hp) (C : Addr) (cl : List (Str × Addr)) (fp : List Addr), DE (X.blk s H scope (compEnvC scope cl C X.env) fp) (G.at h) W0 elt te) (hs : ∀ x, foldedSetIterable iter X.env x = pure x := by intro _; rfl) :
    DS X G W rm (.Assign [.Name y py] (.ListComp elt [⟨tg, iter, ifs, 0⟩] scope pos) spos) (setOM i (compO fi t tt te vs)) := by
  subst hvs
  obtain ⟨wi, g, tt', te', h1, h2, h3, h4, h5⟩ := lc_read hc hN hi ok hjs hg ht he
  exact ps_imp (ps_setLc hc hN hy hyl hsw h1 ok h2 h3 h4 hs) fun E σ H ⟨ρ, k, q⟩ => h5 σ H _ ⟨ρ, k, q.bind.mono fun ds ρ1 H1 _ s1 k1 q1 a vs ha r f => q1 _ H1 Stable.rfl (k1.setO hp ha r f)⟩
end
end DL
end
section
namespace DL
open PySem PySem.Spec L2
open PyProof.Rows hiding St

/-! ### data as the library's data -/
mutual
def toPy : D → PyData
  | .non => .none
  | .bl b => .bool b
  | .int i => .int i
  | .str s => .str s
  | .lst xs => .list (toPyL xs)
  | .tup xs => .tuple (toPyL xs)
  | .dic _ _ => .dict []
  | .ins _ _ _ => .dict []
def toPyL : List D → List PyData
  | [] => []
  | x :: xs => toPy x :: toPyL xs
end
section
variable {m : Md} {H : Hp}
mutual
theorem Rep.dp : ∀ {d : D} {v : V}, Rep m H v d → (toPy d).canLay0 = true → Dp m.K H v (toPy d)
  | .non, _, h, _ => by cases h; exact .non
  | .bl b, _, h, _ => by cases h; exact .bl b
  | .int i, _, h, _ => by cases h; exact .int i
  | .str x, _, h, _ => by cases h; exact .str x
  | .lst ds, _, h, c => by
    cases h with
    | lst q r => exact .lst q.sq (RepL.dp r c)
  | .tup ds, _, h, c => by
    cases h with
    | tup q r => exact .tup q (RepL.dp r c)
  | .dic _ _, _, _, c => by simp [toPy, PyData.canLay0] at c
  | .ins _ _ _, _, _, c => by simp [toPy, PyData.canLay0] at c
theorem RepL.dp : ∀ {ds : List D} {vs : List V}, RepL m H vs ds → PyData.canLayAll0 (toPyL ds) = true → DpAll m.K H vs (toPyL ds)
  | [], _, h, _ => by cases h; exact .nil
  | d :: ds, _, h, c => by
    cases h with
    | cons a b =>
      have c : ((toPy d).canLay0 && PyData.canLayAll0 (toPyL ds)) = true := by simpa [toPyL, PyData.canLayAll0] using c
      rw [Bool.and_eq_true] at c
      exact .cons (Rep.dp a c.1) (RepL.dp b c.2)
end
end
def okD (d : D) : Bool := SeqAt.shaped (toPy d)
def eqvD (a b : D) : Bool := PyData.eqv (toPy a) (toPy b)
def eqD (a b : D) : Option D := if (okD a && okD b) = true then some (.bl (eqvD a b)) else none
def neD (a b : D) : Option D := if (okD a && okD b) = true then some (.bl (!eqvD a b)) else none
section
variable {m : Md}
theorem opd_eq : OpD m (rEqD m.K) eqD := fun x y dx dy d H Q rx ry e h => by
  unfold eqD at e
  split at e
  · rename_i c
    rw [Bool.and_eq_true] at c
    cases e
    exact ⟨toPy dx, toPy dy, rx.dp (SeqAt.canLay_of_shaped c.1), ry.dp (SeqAt.canLay_of_shaped c.2), c.1, c.2, h _ H Grow.rfl (.bl _)⟩
  · cases e
theorem opd_ne : OpD m (rNeD m.K) neD := fun x y dx dy d H Q rx ry e h => by
  unfold neD at e
  split at e
  · rename_i c
    rw [Bool.and_eq_true] at c
    cases e
    exact ⟨toPy dx, toPy dy, rx.dp (SeqAt.canLay_of_shaped c.1), ry.dp (SeqAt.canLay_of_shaped c.2), c.1, c.2, h _ H Grow.rfl (.bl _)⟩
  · cases e
/-! ### whole numbers -/
def intD (f : Int → Int → Option D) : D → D → Option D
  | .int i, .int j => f i j
  | _, _ => none
theorem opd_i0 {g : Int → Int → V} {f : Int → Int → D} (h : ∀ i j H, Rep m H (g i j) (f i j)) : OpD m (rI0 g) (intD fun i j => some (f i j)) := fun x y dx dy d H Q rx ry e k => by
  cases rx <;> cases ry <;> first | (cases e; exact ⟨_, _, rfl, rfl, k _ H Grow.rfl (h _ _ H)⟩) | cases e
theorem opd_iC {C : Int → Int → Prop} [∀ i j, Decidable (C i j)] {g : Int → Int → V} {f : Int → Int → D} (h : ∀ i j H, Rep m H (g i j) (f i j)) : OpD m (rI C g) (intD fun i j => if C i j then some (f i j) else none) := fun x y dx dy d H Q rx ry e k => by
  cases rx with
  | int i =>
    cases ry with
    | int j =>
      have e : (if C i j then some (f i j) else none) = some d := e
      by_cases c : C i j
      · rw [if_pos c] at e; cases e; exact ⟨i, j, rfl, rfl, c, k _ H Grow.rfl (h _ _ H)⟩
      · rw [if_neg c] at e; cases e
    | _ => cases e
  | _ => cases e
def subD : D → D → Option D := intD fun i j => some (.int (i - j))
instance (i j : Int) : Decidable (CMul i j) := by unfold CMul; infer_instance
instance (i j : Int) : Decidable (CDiv i j) := by unfold CDiv; infer_instance
instance (i j : Int) : Decidable (CPow i j) := by unfold CPow; infer_instance
def mulD : D → D → Option D := intD fun i j => if CMul i j then some (.int (i * j)) else none
def divD : D → D → Option D := intD fun i j => if CDiv i j then some (.int (i / j)) else none
def modD : D → D → Option D := intD fun i j => if 0 < j then some (.int (i % j)) else none
def powD : D → D → Option D := intD fun i j => if CPow i j then some (.int (i ^ j.toNat)) else none
def ltD : D → D → Option D := intD fun i j => some (.bl (decide (i < j)))
def leD : D → D → Option D := intD fun i j => some (.bl (decide (i ≤ j)))
def gtD : D → D → Option D := intD fun i j => some (.bl (decide (j < i)))
def geD : D → D → Option D := intD fun i j => some (.bl (decide (j ≤ i)))
theorem opd_sub : OpD m (rI0 fun i j => .int (i - j)) subD := opd_i0 fun _ _ _ => .int _
theorem opd_mul : OpD m (rI CMul fun i j => .int (i * j)) mulD := opd_iC fun _ _ _ => .int _
theorem opd_div : OpD m (rI CDiv fun i j => .int (i / j)) divD := opd_iC fun _ _ _ => .int _
theorem opd_mod : OpD m (rI (fun _ j => 0 < j) fun i j => .int (i % j)) modD := opd_iC (C := fun _ j => 0 < j) fun _ _ _ => .int _
theorem opd_pow : OpD m (rI CPow fun i j => .int (i ^ j.toNat)) powD := opd_iC fun _ _ _ => .int _
theorem opd_lt : OpD m (rI0 fun i j => .bl (decide (i < j))) ltD := opd_i0 fun _ _ _ => .bl _
theorem opd_le : OpD m (rI0 fun i j => .bl (decide (i ≤ j))) leD := opd_i0 fun _ _ _ => .bl _
theorem opd_gt : OpD m (rI0 fun i j => .bl (decide (j < i))) gtD := opd_i0 fun _ _ _ => .bl _
theorem opd_ge : OpD m (rI0 fun i j => .bl (decide (j ≤ i))) geD := opd_i0 fun _ _ _ => .bl _
theorem OpD.or {r r' : R2} {g g' : D → D → Option D} (h : OpD m r g) (h' : OpD m r' g') : OpD m (fun x y H Q => r x y H Q ∨ r' x y H Q) (fun a b => (g a b).or (g' a b)) := fun x y dx dy d H Q rx ry e k => by
  have e : (g dx dy).or (g' dx dy) = some d := e
  cases q : g dx dy with
  | some z =>
    rw [q] at e; cases e
    exact .inl (h x y dx dy _ H Q rx ry q k)
  | none =>
    rw [q] at e
    exact .inr (h' x y dx dy d H Q rx ry e k)
/-! ### + -/
def rCatF (K : PySem.W.Frag) : R2 := fun x y H Q => ∃ a b xs zs, x = .ref a ∧ y = .ref b ∧ SqF K H a xs ∧ SqF K H b zs ∧ xs.length + zs.length ≤ sizeLine ∧ ∀ p, H p = none → ∀ o, Q (.ref p) (upd H p (.frz o (.lst (xs ++ zs))))
theorem isL_of {X : Cx} {pins : List (Addr × Obj)} {σ : L2.St} {H : Hp} {s : Shared} {a : Addr} {xs : List V} (I : Inv X pins σ H s) (h : SqF X.K H a xs) : ∃ (its : List Value) (n : Nat), Vals xs its ∧ IsL s.heap a its.toArray n := by
  rcases h with ⟨o, h⟩ | ⟨its, n, h1, h2, h3⟩
  · obtain ⟨_, _, its, n, r, e⟩ := (show ObjOk X.prog X.w H s.heap a (.frz o (.lst xs)) from I.hok a _ h)
    exact ⟨its, n, r, e⟩
  · exact ⟨its.toList, n, h3, by simpa using I.kIn a _ h1⟩
theorem op_catF {X : Cx} : OpR X (binaryOp .Add) (rCatF X.K) := by
  intro pins s σ H x y v u Q I rx ry ⟨a, b, xs, zs, ex, ey, ha, hb, hz, q⟩
  subst ex; subst ey
  cases rx; cases ry
  obtain ⟨i1, n1, r1, e1⟩ := isL_of I ha
  obtain ⟨i2, n2, r2, e2⟩ := isL_of I hb
  have hl : i1.toArray.size + i2.toArray.size ≤ sizeLine := by
    have := r1.length; have := r2.length
    simp only [List.size_toArray]; omega
  refine PySem.P.add_list e1 e2 ?_ hl
  have J := I.lnew (t' := s.toks) (r1.append r2) (by rw [List.length_append]; exact hz)
  have ea : i1.toArray ++ i2.toArray = (i1 ++ i2).toArray := by simp
  rw [ea]
  obtain ⟨od, J2⟩ := J.lock upd_same trivial
  have q2 := q _ I.fresh od
  have eu : upd (upd H s.heap.objs.size (.lst (xs ++ zs))) s.heap.objs.size (.frz od (.lst (xs ++ zs))) = upd H s.heap.objs.size (.frz od (.lst (xs ++ zs))) := upd_upd
  rw [eu] at J2
  exact ⟨.ref _, _, J2, rfl, q2⟩
def rAdd (K : PySem.W.Frag) : R2 := fun x y H Q => (rI0 fun i j => .int (i + j)) x y H Q ∨ ((fun x y H Q => ∃ i j, x = .str i ∧ y = .str j ∧ i.length + j.length ≤ sizeLine ∧ Q (.str (i ++ j)) H) x y H Q ∨ (rCatF K x y H Q ∨ rCatA K x y H Q))
theorem op_addU {X : Cx} : OpR X (binaryOp .Add) (rAdd X.K) := op_add.or (op_add_str.or (op_catF.or op_catA))
def addD : D → D → Option D
  | .int i, .int j => some (.int (i + j))
  | .str i, .str j => if i.length + j.length ≤ sizeLine then some (.str (i ++ j)) else none
  | .lst xs, .lst ys => if xs.length + ys.length ≤ sizeLine then some (.lst (xs ++ ys)) else none
  | .tup xs, .tup ys => if xs.length + ys.length ≤ sizeLine then some (.tup (xs ++ ys)) else none
  | _, _ => none
theorem opd_add : OpD m (rAdd m.K) addD := fun x y dx dy d H Q rx ry e k => by
  cases rx with
  | int i =>
    cases ry with
    | int j => cases e; exact .inl ⟨i, j, rfl, rfl, k _ H Grow.rfl (.int _)⟩
    | _ => cases e
  | str i =>
    cases ry with
    | str j =>
      have e : (if i.length + j.length ≤ sizeLine then some (D.str (i ++ j)) else none) = some d := e
      by_cases c : i.length + j.length ≤ sizeLine
      · rw [if_pos c] at e; cases e; exact .inr (.inl ⟨i, j, rfl, rfl, c, k _ H Grow.rfl (.str _)⟩)
      · rw [if_neg c] at e; cases e
    | _ => cases e
  | @lst _ v1 xs qa ra =>
    cases ry with
    | @lst _ v2 ys qb rb =>
      have e : (if xs.length + ys.length ≤ sizeLine then some (D.lst (xs ++ ys)) else none) = some d := e
      by_cases c : xs.length + ys.length ≤ sizeLine
      · rw [if_pos c] at e
        cases e
        refine .inr (.inr (.inl ⟨_, _, _, _, rfl, rfl, qa, qb, by rw [ra.len, rb.len]; exact c, fun p hp o => ?_⟩))
        have g := Grow.new (o := .frz o (.lst (v1 ++ v2))) hp
        exact k _ _ g (.lst (.inl ⟨o, upd_same⟩) ((ra.st g.stable).append (rb.st g.stable)))
      · rw [if_neg c] at e; cases e
    | _ => cases e
  | @tup _ v1 xs qa ra =>
    cases ry with
    | @tup _ v2 ys qb rb =>
      have e : (if xs.length + ys.length ≤ sizeLine then some (D.tup (xs ++ ys)) else none) = some d := e
      by_cases c : xs.length + ys.length ≤ sizeLine
      · rw [if_pos c] at e
        cases e
        have ne : ∀ {vs : List V} {ds : List D}, RepL m H vs ds → (vs = [] ↔ ds = []) := fun r => by
          cases r <;> simp
        refine .inr (.inr (.inr ⟨_, _, _, _, rfl, rfl, qa, qb, by rw [ra.len, rb.len]; exact c, fun z => ?_, fun _ z => ?_, fun _ _ p hp => ?_⟩))
        · have z' := (ne ra).mp z
          subst z'
          exact k _ H Grow.rfl (.tup qb rb)
        · have z' := (ne rb).mp z
          subst z'
          rw [List.append_nil] at k
          exact k _ H Grow.rfl (.tup qa ra)
        · have g := Grow.new (o := .tup (v1 ++ v2)) hp
          exact k _ _ g (.tup (SqT.of upd_same) ((ra.st g.stable).append (rb.st g.stable)))
      · rw [if_neg c] at e; cases e
    | _ => cases e
  | _ => cases e
/-! ### places -/
def ixD (x i : D) : Option D := match x, i with
  | .lst xs, .int i => atI xs i
  | .tup xs, .int i => atI xs i
  | .str z, .int i => if z.length ≤ sizeLine then (atI z.cps.toList i).map fun c => .str ⟨#[c]⟩ else none
  | _, _ => none
theorem atI_rep {H : Hp} {vs : List V} {ds : List D} {i : Int} {d : D} (r : RepL m H vs ds) (h : atI ds i = some d) : ∃ v, atI vs i = some v ∧ Rep m H v d := by
  unfold atI at h ⊢
  rw [r.len]
  cases e : ixN ds.length i with
  | none => rw [e] at h; cases h
  | some j =>
    rw [e] at h
    obtain ⟨v, h1, h2⟩ := r.get (show ds[j]? = some d from h)
    exact ⟨v, h1, h2⟩
theorem opd_ix : OpD m (rIx m.K) ixD := fun x y dx dy d H Q rx ry e k => by
  cases rx with
  | lst qa ra =>
    cases ry with
    | int i =>
      obtain ⟨v, h1, h2⟩ := atI_rep ra e
      exact .inl ⟨_, _, i, v, rfl, rfl, qa.sq, h1, k v H Grow.rfl h2⟩
    | _ => cases e
  | tup qa ra =>
    cases ry with
    | int i =>
      obtain ⟨v, h1, h2⟩ := atI_rep ra e
      exact .inr (.inl ⟨_, _, i, v, rfl, rfl, qa, h1, k v H Grow.rfl h2⟩)
    | _ => cases e
  | str z =>
    cases ry with
    | int i =>
      unfold ixD at e
      by_cases c : z.length ≤ sizeLine
      · simp only [c, if_true] at e
        cases q : atI z.cps.toList i with
        | none => rw [q] at e; cases e
        | some w =>
          rw [q] at e; cases e
          exact .inr (.inr ⟨z, i, w, rfl, rfl, c, q, k _ H Grow.rfl (.str _)⟩)
      · simp only [c, if_false] at e; cases e
    | _ => cases e
  | _ => cases e
def ixO (xs : List D) (i : D) : Option D := match i with
  | .int i => atI xs i
  | _ => none
theorem opo_ix : OpO m (rIx m.K) ixO := fun a vs y xs dy d H Q ha r ry e k => by
  cases ry with
  | int i =>
    obtain ⟨v, h1, h2⟩ := atI_rep r e
    exact .inl ⟨_, _, i, v, rfl, rfl, SqL.of ha, h1, k v H Grow.rfl h2⟩
  | _ => cases e
/-! ### builtins -/
def lenD : List D → Option D
  | [.lst xs] => some (.int xs.length)
  | [.tup xs] => some (.int xs.length)
  | [.str z] => if z.length ≤ sizeLine then some (.int z.length) else none
  | _ => none
theorem one_of {H : Hp} {vs : List V} {d : D} (r : RepL m H vs [d]) : ∃ v, vs = [v] ∧ Rep m H v d := by
  cases r with
  | cons a b => cases b; exact ⟨_, rfl, a⟩
theorem two_of {H : Hp} {vs : List V} {d e : D} (r : RepL m H vs [d, e]) : ∃ v w, vs = [v, w] ∧ Rep m H v d ∧ Rep m H w e := by
  cases r with
  | cons a b =>
    cases b with
    | cons b c => cases c; exact ⟨_, _, rfl, a, b⟩
theorem cd_len : CallD m (fun xs H Q => ∃ x n, xs = [x] ∧ LenV m.K x H n ∧ Q (.int n) H) lenD := fun vs ds d H Q r e k => by
  unfold lenD at e
  split at e
  · obtain ⟨v, rfl, rv⟩ := one_of r
    cases e
    cases rv with
    | lst q rl => exact ⟨_, _, rfl, .inl ⟨_, q.sq, rl.len.symm⟩, k _ H Grow.rfl (.int _)⟩
  · obtain ⟨v, rfl, rv⟩ := one_of r
    cases e
    cases rv with
    | tup q rl => exact ⟨_, _, rfl, .inr ⟨_, q, rl.len.symm⟩, k _ H Grow.rfl (.int _)⟩
  · obtain ⟨v, rfl, rv⟩ := one_of r
    split at e
    · rename_i c
      cases e
      cases rv
      exact ⟨_, _, rfl, ⟨c, rfl⟩, k _ H Grow.rfl (.int _)⟩
    · cases e
  · cases e
def intsOf : List D → Option (List Int)
  | [] => some []
  | .int i :: r => (intsOf r).map (i :: ·)
  | _ => none
def boolsOf : List D → Option (List Bool)
  | [] => some []
  | .bl i :: r => (boolsOf r).map (i :: ·)
  | _ => none
theorem bools_rep {H : Hp} : ∀ {ds : List D} {vs : List V} {ns : List Bool}, RepL m H vs ds → boolsOf ds = some ns → vs = ns.map V.bl
  | [], vs, ns, r, e => by cases e; cases r; rfl
  | d :: ds, vs, ns, r, e => by
    cases r with
    | cons a b =>
      cases a with
      | bl i =>
        unfold boolsOf at e
        cases q : boolsOf ds with
        | none => rw [q] at e; cases e
        | some l => rw [q] at e; cases e; rw [bools_rep b q]; rfl
      | _ => cases e
def allD : List D → Option D
  | [.lst xs] => (boolsOf xs).map fun bs => .bl (bs.all id)
  | _ => none
def anyD : List D → Option D
  | [.lst xs] => (boolsOf xs).map fun bs => .bl (bs.any id)
  | _ => none
theorem cd_all : CallD m (rAll m.K) allD := fun vs ds d H Q r e k => by
  unfold allD at e
  split at e
  · obtain ⟨v, rfl, rv⟩ := one_of r
    rename_i xs
    cases q : boolsOf xs with
    | none => rw [q] at e; cases e
    | some bs =>
      rw [q] at e; cases e
      cases rv with
      | lst qa rl =>
        have := bools_rep rl q
        subst this
        exact ⟨_, bs, rfl, qa.sq, k _ H Grow.rfl (.bl _)⟩
  · cases e
/-- the greatest, the least of ints -/
def maxI : List Int → Option Int
  | [] => none
  | x :: r => some (r.foldl max x)
def minI : List Int → Option Int
  | [] => none
  | x :: r => some (r.foldl min x)
def maxLD : List D → Option D
  | [.lst xs] => (intsOf xs).bind fun ns => (maxI ns).map .int
  | _ => none
def minLD : List D → Option D
  | [.lst xs] => (intsOf xs).bind fun ns => (minI ns).map .int
  | _ => none
def max2D : List D → Option D
  | [.int i, .int j] => some (.int (if j > i then j else i))
  | _ => none
def absD : List D → Option D
  | [.int i] => some (.int (if i < 0 then -i else i))
  | _ => none
def intCD : List D → Option D
  | [.int i] => some (.int i)
  | [.bl k] => some (.int (if k then 1 else 0))
  | _ => none
theorem cd_max2 : CallD m (fun xs H Q => ∃ i j, xs = [.int i, .int j] ∧ Q (.int (if j > i then j else i)) H) max2D := fun vs ds d H Q r e k => by
  unfold max2D at e
  split at e
  · obtain ⟨v, w, rfl, rv, rw'⟩ := two_of r
    cases e; cases rv; cases rw'
    exact ⟨_, _, rfl, k _ H Grow.rfl (.int _)⟩
  · cases e
theorem cd_abs : CallD m (fun xs H Q => ∃ i, xs = [.int i] ∧ Q (.int (if i < 0 then -i else i)) H) absD := fun vs ds d H Q r e k => by
  unfold absD at e
  split at e
  · obtain ⟨v, rfl, rv⟩ := one_of r
    cases e; cases rv
    exact ⟨_, rfl, k _ H Grow.rfl (.int _)⟩
  · cases e
theorem cd_int : CallD m (fun xs H Q => (∃ i, xs = [.int i] ∧ Q (.int i) H) ∨ ∃ k, xs = [.bl k] ∧ Q (.int (if k then 1 else 0)) H) intCD := fun vs ds d H Q r e k => by
  unfold intCD at e
  split at e
  · obtain ⟨v, rfl, rv⟩ := one_of r
    cases e; cases rv
    exact .inl ⟨_, rfl, k _ H Grow.rfl (.int _)⟩
  · obtain ⟨v, rfl, rv⟩ := one_of r
    cases e; cases rv
    exact .inr ⟨_, rfl, k _ H Grow.rfl (.int _)⟩
  · cases e
def listCD : List D → Option (List D)
  | [.lst xs] => some xs
  | [.tup xs] => some xs
  | _ => none
theorem co_list : CallO m (fun xs H Q => ∃ p ys, xs = [.ref p] ∧ (SqL m.K H p ys ∨ SqT m.K H p ys) ∧ ∀ l, H l = none → Q (.ref l) (upd H l (.lst ys))) listCD := fun vs ds d H Q r e k => by
  unfold listCD at e
  split at e
  · obtain ⟨v, rfl, rv⟩ := one_of r
    cases e
    cases rv with
    | lst q rl => exact ⟨_, _, rfl, .inl q.sq, fun l hl => k l _ _ (Grow.new hl) hl upd_same (rl.st (Grow.new hl).stable)⟩
  · obtain ⟨v, rfl, rv⟩ := one_of r
    cases e
    cases rv with
    | tup q rl => exact ⟨_, _, rfl, .inr q, fun l hl => k l _ _ (Grow.new hl) hl upd_same (rl.st (Grow.new hl).stable)⟩
  · cases e
end
end DL
end
section
namespace DL
open PySem PySem.Spec L2
open PyProof.Rows hiding St
section
variable {m : Md}
/-! ### methods that change an own list -/
def appD : List D → List D → Option (D × List D) := fun xs as => match as with
  | [y] => if xs.length < sizeLine then some (.non, xs ++ [y]) else none
  | _ => none
theorem mo_append : MtO m rAppend appD := fun a vs args xs ds d ys H Q ha r ra e k => by
  unfold appD at e
  split at e
  · obtain ⟨v, rfl, rv⟩ := one_of ra
    split at e
    · rename_i c
      cases e
      exact ⟨a, vs, v, rfl, rfl, ha, by rw [r.len]; exact c, k .non _ (r.append (.cons rv .nil)) .non⟩
    · cases e
  · cases e
def popD : List D → List D → Option (D × List D) := fun xs as => match as with
  | [] => (xs[xs.length - 1]?).map fun y => (y, xs.dropLast)
  | _ => none
theorem RepL.dropLast {H : Hp} : ∀ {vs : List V} {ds : List D}, RepL m H vs ds → RepL m H vs.dropLast ds.dropLast
  | _, [], h => by cases h; exact .nil
  | _, [d], h => by
    cases h with
    | cons a b => cases b; exact .nil
  | _, d :: e :: ds, h => by
    cases h with
    | cons a b =>
      cases b with
      | cons b c => exact .cons a (RepL.dropLast (.cons b c))
theorem RepL.eraseIdx {H : Hp} : ∀ {vs : List V} {ds : List D} (j : Nat), RepL m H vs ds → RepL m H (vs.eraseIdx j) (ds.eraseIdx j)
  | _, [], j, h => by cases h; exact .nil
  | _, d :: ds, 0, h => by
    cases h with
    | cons a b => exact b
  | _, d :: ds, j + 1, h => by
    cases h with
    | cons a b => exact .cons a (RepL.eraseIdx j b)
def extD : List D → List D → Option (D × List D) := fun xs as => match as with
  | [.lst ys] => if xs.length + ys.length ≤ sizeLine then some (.non, xs ++ ys) else none
  | _ => none
/-! ### methods that read a list -/
end
section
variable {X : Cx} {G : Gh} {W : WX} {e : Expr} {es : List Expr} {pos : Pos}
def tyD (T : String) : D → Bool
  | .str _ => T == "str"
  | .int _ => T == "int"
  | .lst _ => T == "list"
  | _ => false
def tyM (T : String) (f : M D) : M D := bindM f fun d => if tyD T d = true then pureM d else stuckM
def mtV (T : String) (g : D → List D → Option D) (fo : M D) (fa : M (List D)) : M D := bindM (tyM T fo) fun x => bindM fa fun ds => liftM (g x ds)
/-! ### isinstance of data -/
def isTy (T : String) : D → Option Bool
  | .non => some false
  | .bl _ => some (T == "bool" || T == "int")
  | .int _ => some (T == "int")
  | .str _ => some (T == "str")
  | .lst _ => some (T == "list")
  | .tup _ => some (T == "tuple")
  | .dic ks _ => if ks.all isK = true then some (T == "dict") else none
  | .ins _ _ _ => none
def okTy (T : String) : Bool := ["int", "bool", "str", "list", "tuple", "dict"].contains T
theorem kit_ty {K : PySem.W.Frag} {m : Md} (hK : m.K = K) {H : Hp} {v : V} {d : D} {T : String} {b : Bool} (hT : okTy T = true) (r : Rep m H v d) (h : isTy T d = some b) : ∃ t, TyX K H v t ∧ PySem.W.kitOne K t (.type T) = some b := by
  subst hK
  have cs : T = "int" ∨ T = "bool" ∨ T = "str" ∨ T = "list" ∨ T = "tuple" ∨ T = "dict" := by simpa [okTy] using hT
  cases r with
  | non => exact ⟨_, .base .non, by rcases cs with rfl | rfl | rfl | rfl | rfl | rfl <;> (cases h; rfl)⟩
  | bl x => exact ⟨_, .base (.bl x), by rcases cs with rfl | rfl | rfl | rfl | rfl | rfl <;> (cases h; rfl)⟩
  | int x => exact ⟨_, .base (.int x), by rcases cs with rfl | rfl | rfl | rfl | rfl | rfl <;> (cases h; rfl)⟩
  | str x => exact ⟨_, .base (.str x), by rcases cs with rfl | rfl | rfl | rfl | rfl | rfl <;> (cases h; rfl)⟩
  | lst q rl =>
    have fin : PySem.W.kitOne m.K (.type "list") (.type T) = some b := by rcases cs with rfl | rfl | rfl | rfl | rfl | rfl <;> (cases h; rfl)
    rcases q with ⟨o, q⟩ | ⟨its, n, q, _⟩
    · exact ⟨_, .base (.frz q), fin⟩
    · exact ⟨_, .kList q rfl, fin⟩
  | tup q rl =>
    have fin : PySem.W.kitOne m.K (.type "tuple") (.type T) = some b := by rcases cs with rfl | rfl | rfl | rfl | rfl | rfl <;> (cases h; rfl)
    rcases q with (q | ⟨o, q⟩) | ⟨o, its, n, q, c, _⟩
    · exact ⟨_, .base (.tup q), fin⟩
    · exact ⟨_, .fTuple q, fin⟩
    · exact ⟨_, .kTuple q c, fin⟩
  | dicK q rl =>
    rename_i a o kvs ds
    by_cases c : (kvs.map fun p => keyD p.1).all isK = true
    · simp only [isTy, c, if_true] at h
      exact ⟨_, .fDict q, by rcases cs with rfl | rfl | rfl | rfl | rfl | rfl <;> (cases h; rfl)⟩
    · simp only [isTy, c] at h; cases h
  | dicN q n e r1 r2 =>
    rename_i a o kvs ks ds
    by_cases c : ks.all isK = true
    · exact (notK r1 n c).elim
    · simp only [isTy, c] at h; cases h
  | ins => cases h
def isiM (T : String) (f : M D) : M D := bindM f fun d => liftM ((isTy T d).map .bl)
theorem de_isi {T : Str} {Ts : String} {p p2 : Pos} {f : M D} (hK : G.m = ⟨X.K, X.mg, X.w⟩) (hT : okTy Ts = true) (hg : Gl X "isinstance") (hm : X.mg "isinstance" = none) (hgT : Gl X T) (hmT : X.mg T = none) (hv : bootBuiltins T = some (.type Ts)) (ha : DE X G W e f) (hn : T ≠ "__name__" := by decide) (hd : (T == ("__debug__" : Str)) = false := by decide)
    (hs : starEach (e :: [.Name T p2]) X.env = (false, eval e X.env) :: starEach [.Name T p2] X.env := by rfl) (hs2 : starEach (.Name T p2 :: []) X.env = (false, eval (.Name T p2) X.env) :: starEach [] X.env := by rfl)
    (hpl : (backTo pos (starEach [.Name T p2] X.env)).any (·.1) = false := by rfl) : DE X G W (.Call (.Name "isinstance" p) [e, .Name T p2] [] pos) (isiM Ts f) :=
  pe_imp (pe_callB call_isi hg hm (by decide +kernel) (pa_cons ha (pa_cons (pe_bltn (v := .ty Ts) hgT hmT hv rfl hn hd) pa_nil hs2) hs) (by decide) (by decide) hs hpl) fun σ H Q ⟨ρ, k, q⟩ => ⟨ρ, k, q.bind.mono fun d ρ1 H1 _ s1 k1 q1 v r => by
    obtain ⟨z, e, q3⟩ := q1.lift k1
    cases q : isTy Ts d with
    | none => rw [q] at e; cases e
    | some b =>
      rw [q] at e; cases e
      obtain ⟨t, h1, h2⟩ := kit_ty (K := X.K) (by rw [hK]) hT r q
      exact ⟨v, _, t, _, b, rfl, .ty Ts, h1, h2, q3 H1 Stable.rfl k1 _ (.bl b)⟩⟩
end
end DL
end
section
namespace DL
open PySem PySem.Spec L2
open PyProof.Rows hiding St

/-! ### try .. except X as e -/
section
variable {G : Gh} {σ : L2.St} {H : Hp} {ρ : DL.Env}
/-- the suite is left: no slot holds the exception any more -/
def noExn (ρ : DL.Env) : Bool := ρ.all fun s => match s with
  | .exn _ => false
  | _ => true
end
/-- slot i holds the exception in the suite; sub: whether the clause's class is over the exception's -/
def tryM (i : Nat) (sub : Str → Option Bool) (body : MS) (suite : Str → MS) : MS := fun ρ => match body ρ with
  | .exc c ρ1 => match sub c with
    | some true => (match suite c (ρ1.set i (.exn c)) with
      | .ok fl ρ2 => if noExn (ρ2.set i .no) = true then .ok fl (ρ2.set i .no) else .stuck
      | _ => .stuck)
    | some false => .exc c ρ1
    | none => .stuck
  | r => r
section
variable {X : Cx} {G : Gh} {W : WX} {rm : RM}
/-! ### the handled exception: its class -/
def exnM (i : Nat) (g : Str → Option Bool) : M D := fun ρ => match ρ[i]? with
  | some (.exn c) => (match g c with
    | some b => .ok (.bl b) ρ
    | none => .stuck)
  | _ => .stuck
/-- what stands at the handled exception -/
structure HotX (X : Cx) (a : Addr) (C : Addr) (oe : Obj) : Prop where
  pn : (a, oe) ∈ X.pn
  zc : Zc (.ref C) none oe
  fl : ∃ vs, oe.data = .fields vs
/-! ### a def called in the suite -/
structure FnX (P : Program) (w : World) (K : PySem.W.Frag) (mg : Str → Option Value) (base : Heap) (k : Nat) (f : Addr) (fd : FuncData) (ps : List Str) (p : Addr × Obj) (sp : Sp) : Prop where
  len : ∀ vs H Q E, sp vs H Q E → vs.length = ps.length
  run : ∀ (A : Around) (outer : List PySem.Env) (s : Shared) (H : Hp) (args : Args) (us : List Value) (vs : List V) (Q : VK) (E : XK), L2H.RoomH k A → L2H.PinOk outer H s p → Env0 P w K mg base A outer s H →
    BindsTo s fd args (ps.zip us) → Vals vs us → sp vs H Q E → codeAny (model P w) A (.call (.ref f) args) (CR CX0 outer P w H s Q E) s
/-- .. that raises nothing -/
def spX (m : Md) (ex : Option (Addr × Str)) (md : List Bool) (rm : RM) (f : Fn) : Sp := fun vs H Q _ => spD m ex md rm f vs H Q fun _ _ _ => False
end
end DL
end
section
namespace DL
open PySem PySem.Spec L2
open PyProof.Rows hiding St

/-! ### a def of the text, a def's promise, by name -/
def DefIn (K : PySem.W.Frag) (mg : Str → Option Value) (x : Str) (st : Stmt) (fA : Addr) (fd : FuncData) : Prop := mg x = some (.ref fA) ∧ FunD K x x (defArgs st) (defBody st) (defScope st) [] [] fA fd
structure DFn (P : Program) (w : World) (K : PySem.W.Frag) (mg : Str → Option Value) (base : Heap) (x : Str) (k : Nat) (md : List Bool) (rm : RM) (f : Fn) : Prop where
  ex : ∃ fA fd ps, mg x = some (.ref fA) ∧ PySem.W.keepIn K (.ref fA) = true ∧ Binds K fd ps [] ∧ FnOk P w K mg base (L2.CX P w) k fA fd ps (spD ⟨K, mg, w⟩ none md rm f)
theorem DFn.mono {P : Program} {w : World} {K : PySem.W.Frag} {mg : Str → Option Value} {base : Heap} {x : Str} {j k : Nat} {md : List Bool} {rm : RM} {f : Fn} (h : DFn P w K mg base x j md rm f) (hj : j ≤ k) : DFn P w K mg base x k md rm f := by
  obtain ⟨fA, fd, ps, h1, h2, h3, h4⟩ := h.ex
  exact ⟨fA, fd, ps, h1, h2, h3, h4.mono hj⟩
abbrev BindsF (x : Str) (st : Stmt) (ps : List Str) : Prop := ∀ (kV doc pm : Value) (an : Option Addr) (cdv ct : Value) (us : List Value), us.length = ps.length → bindArgs (PySem.W.fnOf x x (defArgs st) (defBody st) (defScope st) .none kV doc pm an cdv ct) ⟨us, []⟩ = pure (ps.zip us)
theorem dfn_ok {P : Program} {w : World} {K : PySem.W.Frag} {mg : Str → Option Value} {base : Heap} {x : Str} {st : Stmt} {fA : Addr} {fd : FuncData} {k : Nat} {N ps : List Str} {md : List Bool} {rm : RM} {bm : MS} (Dn : DefIn K mg x st fA fd) (S : FnScope N ps (defScope st)) (hmd : md.length = ps.length) (hb : BindsF x st ps)
    (D : ∀ (cdv : Value) (A : Around) (outer : List PySem.Env) (s : Shared) (H : Hp) (E : XK) (H0 : Hp) (pr : List (Nat × Addr)), (∀ i, md.getD i false = false → pfree ⟨⟨K, mg, w⟩, H0, pr, none⟩ i) → Room k (A.deeper (envOfC x (defScope st) s.heap.objs.size fA cdv)) →
      Takes (cxOf (L2.CX P w) P w K mg base N x (defScope st) fA cdv A outer s H E) (fun cls d _ H => E cls d H) → DSs (cxOf (L2.CX P w) P w K mg base N x (defScope st) fA cdv A outer s H E) ⟨⟨K, mg, w⟩, H0, pr, none⟩ (fun cls d _ H => E cls d H) rm (defBody st) bm) :
    DFn P w K mg base x (k + 1) md rm (fnM rm.b N.length bm) := by
  obtain ⟨h1, F⟩ := Dn
  exact ⟨fA, fd, ps, h1, F.kp, F.bindsN hb, fn_ok F S hmd D⟩
section
variable {X : Cx} {G : Gh} {W : WX} {e : Expr} {es : List Expr} {pos p : Pos} {x : Str} {j k : Nat} {md : List Bool} {f : Fn} {fa : M (List Ag)}
theorem de_calls (hex : G.ex = none) (hm0 : G.m = ⟨X.K, X.mg, X.w⟩) (tk : Takes X W) (C : DFn X.prog X.w X.K X.mg X.base x j md .f f) (hr : Room k X.A) (hk : j ≤ k) (hg : Gl X x) (ha : DG X G W (e :: es) fa) (hdb : (x == ("__debug__" : Str)) = false := by decide) (he : starEach (e :: es) X.env = (false, eval e X.env) :: starEach es X.env := by rfl) (hpl : (backTo pos (starEach es X.env)).any (·.1) = false := by rfl) :
    DE X G W (.Call (.Name x p) (e :: es) [] pos) (callM f (mdM md fa)) := by
  obtain ⟨fA, fd, ps, h1, h2, h3, h4⟩ := C.ex
  exact de_call hex hm0 tk h4 (hr.mono hk) hg h1 h2 h3 ha hdb he hpl
/-- an own exception class -/
structure ExcIn (K : PySem.W.Frag) (mg : Str → Option Value) (x : Str) : Prop where
  ex : ∃ C, mg x = some (.ref C) ∧ PySem.W.excIn K C He.veBase "ValueError.__new__" = true ∧ PySem.W.keepIn K (.ref C) = true ∧ PySem.W.subIn K (.ref C) (.type "BaseException") = some true ∧ PySem.W.typeIn K (.ref C) = some (.type "type")
theorem ds_raises {rm : RM} {z : Str} {j : Nat} {p2 pos2 : Pos} (hK : G.m = ⟨X.K, X.mg, X.w⟩) (hc : X.calm = true) (tk : Takes X W) (T : ExcIn X.K X.mg x) (hg : Gl X x) (hdb : (x == ("__debug__" : Str)) = false := by decide) :
    DS X G W rm (.Raise (some (.Call (.Name x p) [.Constant (.str z) j p2] [] pos)) none pos2) (raiseM x) := by
  obtain ⟨C, h1, h2, h3, h4, h5⟩ := T.ex
  exact ds_raise hK hc tk h2 h1 h3 (raises_own h4 h5) hg hdb
/-- -n -/
def negM (f : M D) : M D := bindM f fun d => match d with
  | .int i => pureM (.int (-i))
  | _ => stuckM
theorem de_neg {f : M D} (h : DE X G W e f) : DE X G W (.UnaryOp .USub e pos) (negM f) := pe_imp (pe_un un_neg h) fun σ H Q ⟨ρ, k, q⟩ => ⟨ρ, k, q.bind.mono fun d ρ1 H1 _ s1 k1 q1 v r => by
  cases r with
  | int i => exact ⟨i, rfl, q1 H1 Stable.rfl k1 _ (.int _)⟩
  | _ => exact q1.elim⟩
end
end DL
end
section
namespace DL
open PySem PySem.Spec L2
open PyProof.Rows hiding St

/-! ### the module's own exception classes: tab tells each one's supers (itself too) -/
abbrev ExTab := List (Str × List Str)
structure Exs (K : PySem.W.Frag) (mg : Str → Option Value) (tab : ExTab) : Prop where
  cls : ∀ c sup, tab.lookup c = some sup → ∃ C, mg c = some (.ref C) ∧ PySem.W.excIn K C He.veBase "ValueError.__new__" = true ∧ PySem.W.keepIn K (.ref C) = true ∧ PySem.W.subIn K (.ref C) (.type "BaseException") = some true ∧ PySem.W.typeIn K (.ref C) = some (.type "type") ∧ ExcC K C ∧
    (∀ t supt, tab.lookup t = some supt → ∃ Ct, mg t = some (.ref Ct) ∧ PySem.W.kitOne K (.ref C) (.ref Ct) = some (sup.contains t) ∧ PySem.W.exmOne K (.ref C) (.ref Ct) = some (sup.contains t)) ∧ PySem.W.kitOne K (.ref C) (.type "ValueError") = some true
/-- the same as a computation -/
def excCB (K : PySem.W.Frag) (D : Addr) : Bool :=
  decide (PySem.W.findIn K (.ref D) "__getattribute__" = some (some (.builtin "BaseException.__getattribute__"))) && (decide (PySem.W.findIn K (.ref D) "__getattr__" = some none) && (PySem.W.hasDictIn K D &&
  (decide (PySem.W.findIn K (.ref D) "__class__" = some (some (.builtin "object.__class__"))) && (decide (PySem.W.specialIn K (.builtin "object.__class__") "__get__" = some (some (.builtin "getset_descriptor.__get__"))) &&
  (decide (PySem.W.takesIn K (.builtin "object.__class__") = some true) && decide (PySem.W.mroIn K D (.type "object") = some true))))))
def exsB (K : PySem.W.Frag) (tab : ExTab) : Bool := tab.all fun p =>
  decide (PySem.W.nsIn K mainGlobals p.1 = some (some (.ref (He.ga K p.1)))) && (PySem.W.excIn K (He.ga K p.1) He.veBase "ValueError.__new__" && (PySem.W.keepIn K (.ref (He.ga K p.1)) && (decide (PySem.W.subIn K (.ref (He.ga K p.1)) (.type "BaseException") = some true) &&
  (decide (PySem.W.typeIn K (.ref (He.ga K p.1)) = some (.type "type")) && (excCB K (He.ga K p.1) && ((tab.all fun q => decide (PySem.W.kitOne K (.ref (He.ga K p.1)) (.ref (He.ga K q.1)) = some (p.2.contains q.1)) && decide (PySem.W.exmOne K (.ref (He.ga K p.1)) (.ref (He.ga K q.1)) = some (p.2.contains q.1))) &&
  decide (PySem.W.kitOne K (.ref (He.ga K p.1)) (.type "ValueError") = some true)))))))
theorem lookup_mem {α β : Type} [BEq α] [LawfulBEq α] {a : α} {b : β} : ∀ {l : List (α × β)}, l.lookup a = some b → (a, b) ∈ l
  | [], h => by simp at h
  | (x, y) :: l, h => by
    rw [List.lookup_cons] at h
    split at h
    · rename_i e
      have := beq_iff_eq.mp e
      cases h; subst this; exact List.mem_cons_self
    · exact List.mem_cons_of_mem _ (lookup_mem h)
theorem exsB_ok {K : PySem.W.Frag} {h : Heap} {mg : Str → Option Value} {tab : ExTab} (X : K.In h) (G : h.Ns mainGlobals mg) (e : exsB K tab = true) : Exs K mg tab := by
  have un := fun (p : Str × List Str) hp => List.all_eq_true.mp e p hp
  refine ⟨fun c sup hc => ?_⟩
  have q := un _ (lookup_mem hc)
  simp only [Bool.and_eq_true, decide_eq_true_eq] at q
  obtain ⟨q1, q2, q3, q4, q5, q6, q7, q8⟩ := q
  unfold excCB at q6
  simp only [Bool.and_eq_true, decide_eq_true_eq] at q6
  obtain ⟨r1, r2, r3, r4, r5, r6, r7⟩ := q6
  refine ⟨_, PySem.W.mg_of X G q1, q2, q3, q4, q5, ⟨r1, r2, q4, r3, r4, r5, r6, r7⟩, fun t supt ht => ?_, q8⟩
  have z := List.all_eq_true.mp q7 _ (lookup_mem ht)
  simp only [Bool.and_eq_true, decide_eq_true_eq] at z
  have zt := un _ (lookup_mem ht)
  simp only [Bool.and_eq_true, decide_eq_true_eq] at zt
  exact ⟨_, PySem.W.mg_of X G zt.1, z.1, z.2⟩
theorem Exs.exc {K : PySem.W.Frag} {mg : Str → Option Value} {tab : ExTab} (T : Exs K mg tab) (x : Str) (h : (tab.lookup x).isSome = true) : ExcIn K mg x := by
  obtain ⟨sup, e⟩ := Option.isSome_iff_exists.mp h
  obtain ⟨C, h1, h2, h3, h4, h5, _⟩ := T.cls x sup e
  exact ⟨C, h1, h2, h3, h4, h5⟩
/-- the handled exception, told for a suite -/
structure HotB (X : Cx) (a : Addr) (c : Str) (C : Addr) (oe : Obj) : Prop where
  mg : X.mg c = some (.ref C)
  hx : HotX X a C oe
section
variable {X : Cx} {G : Gh} {W : WX} {rm : RM} {tab : ExTab}
end
/-! ### a def called with the handled exception -/
structure DFnX (P : Program) (w : World) (K : PySem.W.Frag) (mg : Str → Option Value) (base : Heap) (x : Str) (k : Nat) (md : List Bool) (f : Fn) : Prop where
  ex : ∃ fA fd ps, mg x = some (.ref fA) ∧ PySem.W.keepIn K (.ref fA) = true ∧ Binds K fd ps [] ∧ ∀ (p : Addr × Obj) (c : Str) (C : Addr), mg c = some (.ref C) → Zc (.ref C) none p.2 → (∃ vs, p.2.data = .fields vs) → FnX P w K mg base k fA fd ps p (spX ⟨K, mg, w⟩ (some (p.1, c)) md .f f)
section
variable {X : Cx} {G : Gh} {e : Expr} {es : List Expr} {pos p : Pos} {x : Str} {j : Nat} {md : List Bool} {f : Fn} {fa : M (List Ag)}
/-- len of an own list -/
def lenO (i : Nat) : M D := bindM (getO i) fun xs => pureM (.int xs.length)
end
end DL
end
section
namespace DL
open PySem PySem.Spec L2
open PyProof.Rows hiding St

/-! ### the head: the facts of HeadHook2 and one computation more -/
abbrev AlE : Type := He.AlD × Bool
def obsE (n : Nat) (fa : List He.Fa) (fn : List He.DefD) (xt : PySem.W.Frag → Bool) (g : Addr → Option Obj) : AlE := (He.obsDG n fa fn g, xt (He.frG g (He.asD g n)))
def hookE (n : Nat) (fa : List He.Fa) (fn : List He.DefD) (xt : PySem.W.Frag → Bool) : PySem.W.Hook where
  α := AlE
  obs := fun s => obsE n fa fn xt s.heap.get?
  val := fun _ => (He.valD fn, true)
  says := fun _ h => ∃ K : PySem.W.Frag, K.In h ∧ He.SaysD fa fn K ∧ xt K = true
  of := fun _ s e => ⟨He.frG s.heap.get? (He.asD s.heap.get? n), He.frG_in, congrArg (fun z : AlE => z.1) e, congrArg (fun z : AlE => z.2) e⟩
  keeps := fun _ _ _ ⟨K, h1, h2, h3⟩ k => ⟨K, PySem.W.Frag.In.keeps h1 k, h2, h3⟩
theorem obsE_eq {n : Nat} {fa : List He.Fa} {fn : List He.DefD} {xt : PySem.W.Frag → Bool} {g : Addr → Option Obj} {s : Shared} (h : ∀ a, g a = s.heap.get? a) : obsE n fa fn xt g = (hookE n fa fn xt).obs s := by
  rw [show g = s.heap.get? from funext h]; rfl
/-- the lists of the written part have no slots -/
def slotsB (K : PySem.W.Frag) : Bool := K.all fun p => match p.2.cls with
  | .type c => c != "list" || p.2.slots.isEmpty
  | _ => true
theorem slotsB_ok {K : PySem.W.Frag} (h : slotsB K = true) {a : Addr} {o : Obj} (e : K.lookup a = some o) (c : o.cls = .type "list") : o.slots = #[] := by
  have q := List.all_eq_true.mp h _ (lookup_mem e)
  simp only [c, Bool.or_eq_true] at q
  rcases q with q | q
  · simp at q
  · exact Array.isEmpty_iff.mp q
theorem script_ok {m : Md} {H : Hp} {a : Addr} {ns : List Int} (hs : slotsB m.K = true) (hO : Only H) (h : SqL m.K H a (ns.map V.int)) : Rep m H (.ref a) (.lst (ns.map D.int)) := by
  have r : RepL m H (ns.map V.int) (ns.map D.int) := by
    induction ns with
    | nil => exact .nil
    | cons n ns ih =>
      refine .cons (.int n) ?_
      clear h ih
      induction ns with
      | nil => exact .nil
      | cons n ns ih => exact .cons (.int n) ih
  refine .lst ?_ r
  rcases h with (h | ⟨o, h⟩) | ⟨o, its, n, h1, h2, h3, h4, h5, h6⟩
  · rcases hO a with e | ⟨o, xs, e⟩
    · rw [h] at e; cases e
    · rw [h] at e; cases e
  · exact .inl ⟨o, h⟩
  · have z := slotsB_ok hs h1 h2
    obtain ⟨oc, od, dt, sl⟩ := o
    dsimp only at h2 h3 h4 z
    subst h2; subst h3; subst h4; subst z
    exact .inr ⟨its, n, h1, h5, h6⟩
/-- the law's promise from the mirror's answer -/
theorem law_sp {m : Md} {f : Fn} {H : Hp} {a : Addr} {ns : List Int} (hs : slotsB m.K = true) (hO : Only H) (h : SqL m.K H a (ns.map V.int)) (e : f [.d (.lst (ns.map D.int))] = .ok (.bl true) []) : spD m none [false] .f f [.ref a] H (fun v _ => v = .bl true) fun _ _ _ => False := by
  refine ⟨[.d (.lst (ns.map D.int))], rfl, ⟨rfl, fun i x h => ?_, fun i xs h => ?_, fun i j xs ys b ne h => ?_, fun i c h => ?_⟩, ?_⟩
  · cases i with
    | zero => simp at h; subst h; exact ⟨_, rfl, script_ok hs hO ‹_›⟩
    | succ i => simp at h
  · cases i <;> simp at h
  · cases i <;> simp at h
  · cases i <;> simp at h
  · rw [e]
    intro v H' _ _ _ r
    cases r; rfl
theorem walk_ofX {l : PySem.W.OpenLaw} {n k : Nat} {q : Program} {loose : List Str} {XP : (Str → Option Value) → Heap → Prop} {YP : World → Heap → Prop} {d : DefRec} {CX : World → CXT} {x : Str} (hn : l.most = some n) (hn2 : n ≤ sizeLine) (hdf : d.params.defaults = []) (hr : Room k callerA)
    (F : ∀ (w : World) (mg : Str → Option Value) (fa : Addr) (h : Heap), YP w h → h.Ns mainGlobals mg → mg d.name = some (.ref fa) → ∃ (K : PySem.W.Frag) (fd : FuncData) (sp : Sp), K.In h ∧ (∀ (s : Shared) (u : Value), BindsTo s fd ⟨[u], []⟩ [(x, u)]) ∧
      (∀ (H : Hp) (a : Addr) (ns : List Int), ns.length ≤ n → Only H → SqL K H a (ns.map V.int) → sp [.ref a] H (fun v _ => v = .bl true) fun _ _ _ => False) ∧ ∀ base : Heap, K.In base → base.Ns mainGlobals mg → FnOk l.prog w K mg base (CX w) k fa fd [x] sp)
    (hCX : ∀ (w : World) (H : Hp) (s : Shared) (e : Value) (s' : Shared), CX w [] H s (fun _ _ _ => False) e s' → False) : PySem.W.WalkO q loose XP YP l.row.toRowW d [] (fun f vs => PySem.call f vs) := by
  refine Att.attach_call hn hdf fun w t0 t1 mg mb fa o pm cd doc a vs ns Gr Y e1 e2 e3 hmg e4 e5 hlen e6 => ?_
  obtain ⟨K, fd, sp, hK, hb, hsp, hF⟩ := F w mg fa _ Y Gr.T.g hmg
  exact law_call hK Gr.T.g Gr.T.b Gr.T.builtins Gr.T.nolimit e6 e4 e5 (Nat.le_trans hlen hn2) hr hF hb (fun H h1 h2 => hsp H a ns hlen h1 h2) fun H e s' => hCX w H t1 e s'
theorem cx_none {P : Program} {w : World} {H : Hp} {s : Shared} {e : Value} {s' : Shared} (h : L2.CX P w [] H s (fun _ _ _ => False) e s') : False := by
  obtain ⟨_, _, _, _, _, _, _, _, _, _, _, _, hE⟩ := h
  exact hE
/-- a def of the text from the head's facts -/
theorem def_in {fa : List He.Fa} {fn : List He.DefD} {K : PySem.W.Frag} {h : Heap} {mg : Str → Option Value} (X : K.In h) (G : h.Ns mainGlobals mg) (c : He.SaysD fa fn K) {x : Str} {st : Stmt} (i j : Nat) (hi : fn[i]? = some ⟨(x, none), x, x, defArgs st, defBody st, defScope st, [], []⟩) (hj : fa[j]? = some (.glo x)) : ∃ fd, DefIn K mg x st (He.ga K x) fd := by
  obtain ⟨fd, F⟩ := c.def_ i hi
  exact ⟨fd, He.glo_ok X G (c.fact j hj), F⟩
end DL
end
namespace DL
open PySem PySem.Spec L2
open PyProof.Rows hiding St
def strsEq : List Value → List Str → Bool
  | [], [] => true
  | .str y _ :: us, z :: zs => decide (y = z) && strsEq us zs
  | _, _ => false
def listB (K : PySem.W.Frag) (p : Str × List Str) : Bool := match K.lookup (He.ga K p.1) with
  | some ⟨.type c, none, .seq its _, sl⟩ => c == "list" && (sl.isEmpty && (decide (its.size ≤ 1000) && strsEq its.toList p.2))
  | _ => false
def listsB (K : PySem.W.Frag) (ls : List (Str × List Str)) : Bool := ls.all (listB K)
def tab : ExTab := [("YardError", ["YardError", "ValueError"]), ("BadYard", ["BadYard", "YardError", "ValueError"])]
def top (i : Nat) : Stmt := PySem.Challenge.pw_pieceyard_k17_names_borne.main.body.getD i (.Pass ⟨0, 0, 0, 0⟩)
def inCls : Stmt → Nat → Stmt
  | .ClassDef _ _ _ body _ _ _ _ _ _ _, j => body.getD j (.Pass ⟨0, 0, 0, 0⟩)
  | s, _ => s
abbrev s_is_exchanged : Stmt := top 5
abbrev N_is_exchanged : List Str := ["name"]
abbrev P_is_exchanged : List Str := ["name"]
abbrev s_quarters : Stmt := top 6
abbrev N_quarters : List Str := ["name"]
abbrev P_quarters : List Str := ["name"]
abbrev s_cell_over : Stmt := top 7
abbrev N_cell_over : List Str := ["yard", "name", "cell", "r", "c", "sizes", "turn"]
abbrev P_cell_over : List Str := ["yard", "name", "cell"]
abbrev s_step_over : Stmt := top 8
abbrev N_step_over : List Str := ["name", "step", "dr", "dc", "turn"]
abbrev P_step_over : List Str := ["name", "step"]
abbrev s_cells_over : Stmt := top 9
abbrev N_cells_over : List Str := ["yard", "name", "cells", "cell"]
abbrev P_cells_over : List Str := ["yard", "name", "cells"]
abbrev s_steps_stay : Stmt := top 10
abbrev N_steps_stay : List Str := ["yard", "name", "letter", "row", "step"]
abbrev P_steps_stay : List Str := ["yard", "name"]
abbrev s_goals_stay : Stmt := top 11
abbrev N_goals_stay : List Str := ["yard", "name", "side", "there"]
abbrev P_goals_stay : List Str := ["yard", "name"]
abbrev s_is_borne : Stmt := top 12
abbrev N_is_borne : List Str := ["yard", "name"]
abbrev P_is_borne : List Str := ["yard", "name"]
abbrev s_bears : Stmt := top 13
abbrev N_bears : List Str := ["yard", "name"]
abbrev P_bears : List Str := ["yard"]
abbrev s_rising : Stmt := top 19
abbrev N_rising : List Str := ["row", "k"]
abbrev P_rising : List Str := ["row"]
abbrev s_is_step : Stmt := top 20
abbrev N_is_step : List Str := ["step"]
abbrev P_is_step : List Str := ["step"]
abbrev s_is_kind : Stmt := top 21
abbrev N_is_kind : List Str := ["letter", "kind", "leaps", "rides", "crown", "step"]
abbrev P_is_kind : List Str := ["letter", "kind"]
abbrev s_law_cell : Stmt := top 24
abbrev N_law_cell : List Str := ["script", "k", "base"]
abbrev P_law_cell : List Str := ["script", "k"]
abbrev s_law_begin : Stmt := top 25
abbrev N_law_begin : List Str := ["script", "k", "cell"]
abbrev P_law_begin : List Str := ["script", "k"]
abbrev s_law_take : Stmt := top 26
abbrev N_law_take : List Str := ["state", "many", "found", "stir"]
abbrev P_law_take : List Str := ["state", "many"]
abbrev s_law_steps : Stmt := top 27
abbrev N_law_steps : List Str := ["number", "plain", "slant", "far", "some"]
abbrev P_law_steps : List Str := ["number"]
abbrev s_law_kind : Stmt := top 28
abbrev N_law_kind : List Str := ["state", "crown", "leaps", "rides", "turn"]
abbrev P_law_kind : List Str := ["state", "crown"]
abbrev s_law_some_cells : Stmt := top 29
abbrev N_law_some_cells : List Str := ["state", "height", "width", "out", "share", "found", "r", "c"]
abbrev P_law_some_cells : List Str := ["state", "height", "width", "out", "share"]
abbrev s_law_parts : Stmt := top 30
abbrev N_law_parts : List Str := ["script", "k", "most", "state", "height", "width", "holes", "kinds", "letter", "goals", "c", "row", "cell"]
abbrev P_law_parts : List Str := ["script", "k", "most"]
abbrev s_law_yard : Stmt := top 31
abbrev N_law_yard : List Str := ["parts", "kinds", "letter"]
abbrev P_law_yard : List Str := ["parts"]
abbrev s_law_position : Stmt := top 32
abbrev s_law_even : Stmt := top 33
abbrev N_law_even : List Str := ["script", "k", "parts", "state", "height", "width", "goals", "way", "holes", "c", "row", "cell"]
abbrev P_law_even : List Str := ["script", "k"]
abbrev s_law_names : Stmt := top 34
abbrev N_law_names : List Str := ["plain", "name"]
abbrev P_law_names : List Str := []
abbrev s_law_over_cell : Stmt := top 35
abbrev N_law_over_cell : List Str := ["parts", "name", "cell", "r", "c", "height", "width"]
abbrev P_law_over_cell : List Str := ["parts", "name", "cell"]
abbrev s_law_over_step : Stmt := top 36
abbrev N_law_over_step : List Str := ["name", "step", "dr", "dc"]
abbrev P_law_over_step : List Str := ["name", "step"]
abbrev s_law_bears : Stmt := top 37
abbrev N_law_bears : List Str := ["parts", "name", "letter", "row", "side", "there", "cell", "step"]
abbrev P_law_bears : List Str := ["parts", "name"]
abbrev s_law_over : Stmt := top 38
abbrev s_law : Stmt := top 39
abbrev N_law : List Str := ["script", "parts", "yard", "due", "lap", "found", "name"]
abbrev P_law : List Str := ["script"]
abbrev s_Yard_ini : Stmt := inCls (top 22) 0
abbrev N_Yard_ini : List Str := ["self", "height", "width", "holes", "kinds", "goals", "stuck", "row", "letter", "leaps", "rides", "crown", "cell"]
abbrev P_Yard_ini : List Str := ["self", "height", "width", "holes", "kinds", "goals", "stuck"]
abbrev s_Yard_on_board : Stmt := inCls (top 22) 1
abbrev N_Yard_on_board : List Str := ["self", "cell"]
abbrev P_Yard_on_board : List Str := ["self", "cell"]
abbrev s_Yard_is_free : Stmt := inCls (top 22) 2
abbrev N_Yard_is_free : List Str := ["self", "cell"]
abbrev P_Yard_is_free : List Str := ["self", "cell"]
abbrev s_Yard_cells : Stmt := inCls (top 22) 3
def d_is_exchanged : He.DefD := ⟨("is_exchanged", none), "is_exchanged", "is_exchanged", defArgs s_is_exchanged, defBody s_is_exchanged, defScope s_is_exchanged, [], []⟩
def d_quarters : He.DefD := ⟨("quarters", none), "quarters", "quarters", defArgs s_quarters, defBody s_quarters, defScope s_quarters, [], []⟩
def d_cell_over : He.DefD := ⟨("cell_over", none), "cell_over", "cell_over", defArgs s_cell_over, defBody s_cell_over, defScope s_cell_over, [], []⟩
def d_step_over : He.DefD := ⟨("step_over", none), "step_over", "step_over", defArgs s_step_over, defBody s_step_over, defScope s_step_over, [], []⟩
def d_cells_over : He.DefD := ⟨("cells_over", none), "cells_over", "cells_over", defArgs s_cells_over, defBody s_cells_over, defScope s_cells_over, [], []⟩
def d_steps_stay : He.DefD := ⟨("steps_stay", none), "steps_stay", "steps_stay", defArgs s_steps_stay, defBody s_steps_stay, defScope s_steps_stay, [], []⟩
def d_goals_stay : He.DefD := ⟨("goals_stay", none), "goals_stay", "goals_stay", defArgs s_goals_stay, defBody s_goals_stay, defScope s_goals_stay, [], []⟩
def d_is_borne : He.DefD := ⟨("is_borne", none), "is_borne", "is_borne", defArgs s_is_borne, defBody s_is_borne, defScope s_is_borne, [], []⟩
def d_bears : He.DefD := ⟨("bears", none), "bears", "bears", defArgs s_bears, defBody s_bears, defScope s_bears, [], []⟩
def d_rising : He.DefD := ⟨("rising", none), "rising", "rising", defArgs s_rising, defBody s_rising, defScope s_rising, [], []⟩
def d_is_step : He.DefD := ⟨("is_step", none), "is_step", "is_step", defArgs s_is_step, defBody s_is_step, defScope s_is_step, [], []⟩
def d_is_kind : He.DefD := ⟨("is_kind", none), "is_kind", "is_kind", defArgs s_is_kind, defBody s_is_kind, defScope s_is_kind, [], []⟩
def d_law_cell : He.DefD := ⟨("_law_cell", none), "_law_cell", "_law_cell", defArgs s_law_cell, defBody s_law_cell, defScope s_law_cell, [], []⟩
def d_law_begin : He.DefD := ⟨("_law_begin", none), "_law_begin", "_law_begin", defArgs s_law_begin, defBody s_law_begin, defScope s_law_begin, [], []⟩
def d_law_take : He.DefD := ⟨("_law_take", none), "_law_take", "_law_take", defArgs s_law_take, defBody s_law_take, defScope s_law_take, [], []⟩
def d_law_steps : He.DefD := ⟨("_law_steps", none), "_law_steps", "_law_steps", defArgs s_law_steps, defBody s_law_steps, defScope s_law_steps, [], []⟩
def d_law_kind : He.DefD := ⟨("_law_kind", none), "_law_kind", "_law_kind", defArgs s_law_kind, defBody s_law_kind, defScope s_law_kind, [], []⟩
def d_law_some_cells : He.DefD := ⟨("_law_some_cells", none), "_law_some_cells", "_law_some_cells", defArgs s_law_some_cells, defBody s_law_some_cells, defScope s_law_some_cells, [], []⟩
def d_law_parts : He.DefD := ⟨("_law_parts", none), "_law_parts", "_law_parts", defArgs s_law_parts, defBody s_law_parts, defScope s_law_parts, [], []⟩
def d_law_yard : He.DefD := ⟨("_law_yard", none), "_law_yard", "_law_yard", defArgs s_law_yard, defBody s_law_yard, defScope s_law_yard, [], []⟩
def d_law_position : He.DefD := ⟨("_law_position", none), "_law_position", "_law_position", defArgs s_law_position, defBody s_law_position, defScope s_law_position, [], []⟩
def d_law_even : He.DefD := ⟨("_law_even", none), "_law_even", "_law_even", defArgs s_law_even, defBody s_law_even, defScope s_law_even, [], []⟩
def d_law_names : He.DefD := ⟨("_law_names", none), "_law_names", "_law_names", defArgs s_law_names, defBody s_law_names, defScope s_law_names, [], []⟩
def d_law_over_cell : He.DefD := ⟨("_law_over_cell", none), "_law_over_cell", "_law_over_cell", defArgs s_law_over_cell, defBody s_law_over_cell, defScope s_law_over_cell, [], []⟩
def d_law_over_step : He.DefD := ⟨("_law_over_step", none), "_law_over_step", "_law_over_step", defArgs s_law_over_step, defBody s_law_over_step, defScope s_law_over_step, [], []⟩
def d_law_bears : He.DefD := ⟨("_law_bears", none), "_law_bears", "_law_bears", defArgs s_law_bears, defBody s_law_bears, defScope s_law_bears, [], []⟩
def d_law_over : He.DefD := ⟨("_law_over", none), "_law_over", "_law_over", defArgs s_law_over, defBody s_law_over, defScope s_law_over, [], []⟩
def d_law : He.DefD := ⟨("law", none), "law", "law", defArgs s_law, defBody s_law, defScope s_law, [], []⟩
def d_Yard_ini : He.DefD := ⟨("Yard", some "__init__"), "__init__", "Yard.__init__", defArgs s_Yard_ini, defBody s_Yard_ini, defScope s_Yard_ini, [], []⟩
def d_Yard_on_board : He.DefD := ⟨("Yard", some "on_board"), "on_board", "Yard.on_board", defArgs s_Yard_on_board, defBody s_Yard_on_board, defScope s_Yard_on_board, [], []⟩
def d_Yard_is_free : He.DefD := ⟨("Yard", some "is_free"), "is_free", "Yard.is_free", defArgs s_Yard_is_free, defBody s_Yard_is_free, defScope s_Yard_is_free, [], []⟩
def d_Yard_cells : He.DefD := ⟨("Yard", some "cells"), "cells", "Yard.cells", defArgs s_Yard_cells, defBody s_Yard_cells, defScope s_Yard_cells, [], []⟩
def fn : List He.DefD := [d_is_exchanged, d_quarters, d_cell_over, d_step_over, d_cells_over, d_steps_stay, d_goals_stay, d_is_borne, d_bears, d_rising, d_is_step, d_is_kind, d_law_cell, d_law_begin, d_law_take, d_law_steps, d_law_kind, d_law_some_cells, d_law_parts, d_law_yard, d_law_position, d_law_even, d_law_names, d_law_over_cell, d_law_over_step, d_law_bears, d_law_over, d_law, d_Yard_ini, d_Yard_on_board, d_Yard_is_free, d_Yard_cells]
def fa : List He.Fa := [.glo "is_exchanged", .glo "quarters", .glo "cell_over", .glo "step_over", .glo "cells_over", .glo "steps_stay", .glo "goals_stay", .glo "is_borne", .glo "bears", .glo "rising", .glo "is_step", .glo "is_kind", .glo "_law_cell", .glo "_law_begin", .glo "_law_take", .glo "_law_steps", .glo "_law_kind", .glo "_law_some_cells", .glo "_law_parts", .glo "_law_yard", .glo "_law_position", .glo "_law_even", .glo "_law_names", .glo "_law_over_cell", .glo "_law_over_step", .glo "_law_bears", .glo "_law_over", .glo "law", .meth "Yard" "__init__", .meth "Yard" "on_board", .meth "Yard" "is_free", .meth "Yard" "cells", .free "abs", .free "all", .free "int", .free "isinstance", .free "len", .free "list", .free "max", .free "min", .free "range", .free "set", .free "sorted", .free "str", .free "tuple", .str "LETTERS" "abcdefghijklmnopqrstuvwxyz", .int "MOST_KINDS" 6, .int "MOST_SIDE" 5, .int "MOST_STEP" 4, .glo "Yard", .cls "Yard", .mkr "Yard", .noat "Yard" "goals", .noat "Yard" "height", .noat "Yard" "holes", .noat "Yard" "kinds", .noat "Yard" "stuck", .noat "Yard" "width", .glo "NAMES"]
def lts : List (Str × List Str) := [("NAMES", ["turn0", "turn1", "turn2", "turn3", "flip0", "flip1", "flip2", "flip3", "xturn0", "xturn1", "xturn2", "xturn3", "xflip0", "xflip1", "xflip2", "xflip3"])]
abbrev Rr : PySem.W.OpenRow := PySem.W.OpenLaw.row PySem.Challenge.rw_pieceyard_k17_names_borne
abbrev hkk : PySem.W.Hook := hookE 4 fa fn fun K => exsB K tab && (slotsB K && listsB K lts)
def obb (s : PySem.W.SharedT) : AlE := obsE 4 fa fn (fun K => exsB K tab && (slotsB K && listsB K lts)) (HandSHeadRun.getT s)
theorem obb_eq (s : PySem.W.SharedT) : obb s = hkk.obs s.abs := obsE_eq (HandSHeadRun.getT_eq s)
def loose : List Str := ([("__name__" : Str), ("YardError" : Str), ("BadYard" : Str), ("NAMES" : Str), ("is_exchanged" : Str), ("quarters" : Str), ("cell_over" : Str), ("step_over" : Str), ("cells_over" : Str), ("steps_stay" : Str), ("goals_stay" : Str), ("is_borne" : Str), ("bears" : Str), ("MOST_SIDE" : Str), ("MOST_KINDS" : Str), ("MOST_STEP" : Str), ("LETTERS" : Str), ("rising" : Str), ("is_step" : Str), ("is_kind" : Str), ("Yard" : Str), ("_law_cell" : Str), ("_law_begin" : Str), ("_law_take" : Str), ("_law_steps" : Str), ("_law_kind" : Str), ("_law_some_cells" : Str), ("_law_parts" : Str), ("_law_yard" : Str), ("_law_position" : Str), ("_law_even" : Str), ("_law_names" : Str), ("_law_over_cell" : Str), ("_law_over_step" : Str), ("_law_bears" : Str)] : List Str) ++ ([("_law_over" : Str)] : List Str)
theorem run (w : World) : HandSHeadRun.RunEq Rr (PySem.W.view Rr.prog [39]) hkk obb 8000 loose w := by
  intro os
  kernel_rfl
end DL
section
/-! sets of nested tuples of whole numbers -/
namespace DLS
open PySem PySem.Spec PyProof.Rows L2
mutual
def intK : NestedKey → Bool
  | .num _ => true
  | .tup ks => intKs ks
  | .none => false
  | .text _ => true
def intKs : List NestedKey → Bool
  | [] => true
  | k :: ks => intK k && intKs ks
end
section
variable {P : Program} {w : World}
/-- the question f of v is answered b, nothing changes -/
def Says (P : Program) (w : World) (s : Shared) (f : Sem Bool) (b : Bool) : Prop := ∀ (A : Around) (E : Value → Shared → Prop) (Q : Bool → Shared → Prop), Q b s → wpAny (model P w) A f Q E s
theorem says_pure {s : Shared} {b : Bool} : Says P w s (pure b) b := fun _ _ _ q => wpAny_pure q
/-- a loop whose every turn goes on -/
theorem loop_on {s : Shared} {A : Around} {E : Value → Shared → Prop} {α S : Type} {st : S} {body : α → S → Sem (ForInStep S)} {T : α → Prop} {Q : S → Shared → Prop}
    (turn : ∀ x, T x → ∀ (R : ForInStep S → Shared → Prop), R (.yield st) s → wpAny (model P w) A (body x st) R E s) :
    ∀ xs : List α, (∀ x ∈ xs, T x) → Q st s → wpAny (model P w) A (forIn xs st body) Q E s
  | [], _, q => by rw [List.forIn_nil]; exact wpAny_pure q
  | x :: xs, h, q => by
    rw [List.forIn_cons]
    refine wpAny_bind (turn x (h x List.mem_cons_self) _ ?_)
    exact loop_on turn xs (fun y hy => h y (List.mem_cons_of_mem _ hy)) q
theorem class_tup {s : Shared} {a : Addr} {o : Obj} {vs : Array Value} {m n : Nat} (ho : s.heap.get? a = some o) (hc : o.cls = .type "tuple") (hd : o.data = .seq vs m) (hq : ∀ v ∈ vs.toList, Says P w s (ofAClassStatement n v) false) : Says P w s (ofAClassStatement (n + 1) (.ref a)) false := fun A E Q q => by
  unfold ofAClassStatement
  refine wpAny_bind (wpAny_typeOf (T := "tuple") ⟨o, ho, hc⟩ ?_)
  dsimp only
  simp only [show (("tuple" : String) == "tuple") = true by decide, if_true, Bool.not_true, Bool.false_eq_true, if_false]
  try refine wpAny_bind (wpAny_pure ?_)
  try simp only [Bool.not_true, Bool.false_eq_true, if_false]
  show wpAny (model P w) A (seqItems? (.ref a) >>= _) Q E s
  refine wpAny_bind (wpAny_seqItems ho hd (wpAny_bind ?_))
  show wpAny (model P w) A (forIn vs _ _) _ E s
  rw [← Array.forIn_toList]
  refine loop_on (T := fun v => Says P w s (ofAClassStatement n v) false) ?_ vs.toList hq ?_
  · intro v hv R r
    refine wpAny_bind (hv _ _ _ ?_)
    simp only [Bool.false_eq_true, if_false]
    exact wpAny_pure r
  · exact wpAny_pure q
theorem hash_tup {s : Shared} {a : Addr} {o : Obj} {vs : Array Value} {m n : Nat} (ho : s.heap.get? a = some o) (hc : o.cls = .type "tuple") (hd : o.data = .seq vs m) (hq : ∀ v ∈ vs.toList, Says P w s (hashByValue n v) true) : Says P w s (hashByValue (n + 1) (.ref a)) true := fun A E Q q => by
  unfold hashByValue
  have ht : s.TypeIs (.ref a) "tuple" := ⟨o, ho, hc⟩
  refine wpAny_bind (wpAny_specialOf ht F.slot_tuple_hash.lookup ?_)
  show wpAny (model P w) A (seqItems? (.ref a) >>= _) Q E s
  refine wpAny_bind (wpAny_seqItems ho hd (wpAny_bind ?_))
  show wpAny (model P w) A (forIn vs _ _) _ E s
  rw [← Array.forIn_toList]
  refine loop_on (T := fun v => Says P w s (hashByValue n v) true) ?_ vs.toList hq ?_
  · intro v hv R r
    refine wpAny_bind (hv _ _ _ ?_)
    simp only [Bool.not_true, Bool.false_eq_true, if_false]
    exact wpAny_pure r
  · exact wpAny_pure q
mutual
theorem class_key : ∀ (k : NestedKey) (v : Value) (n : Nat) (s : Shared), NestedIs s.heap k v → k.depth ≤ n → Says P w s (ofAClassStatement n v) false
  | .none, _, n, s, x, _ => by cases x; cases n <;> exact says_pure
  | .num i, _, n, s, x, _ => by cases x <;> (cases n <;> exact says_pure)
  | .text y, _, n, s, x, _ => by cases x; cases n <;> exact says_pure
  | .tup ks, _, 0, s, x, hn => by simp [NestedKey.depth] at hn
  | .tup ks, _, n + 1, s, x, hn => by
    cases x with
    | tup ho hc hd hk => exact class_tup ho hc hd (class_keys ks _ n s hk (by simp only [NestedKey.depth] at hn; omega))
theorem class_keys : ∀ (ks : List NestedKey) (vs : List Value) (n : Nat) (s : Shared), NestedAll s.heap ks vs → NestedKey.depthAll ks ≤ n → ∀ v ∈ vs, Says P w s (ofAClassStatement n v) false
  | [], _, n, s, x, _, v, hv => by cases x; cases hv
  | k :: ks, _, n, s, x, hn, v, hv => by
    cases x with
    | cons x1 x2 =>
      simp only [NestedKey.depthAll] at hn
      rcases List.mem_cons.mp hv with rfl | hv
      · exact class_key k _ n s x1 (by omega)
      · exact class_keys ks _ n s x2 (by omega) v hv
end
/-- a loop one of whose turns ends it -/
theorem loop_end {s : Shared} {A : Around} {E : Value → Shared → Prop} {α S : Type} {st st' : S} {body : α → S → Sem (ForInStep S)} {T F : α → Prop} {Q : S → Shared → Prop}
    (turn : ∀ x, T x → ∀ (R : ForInStep S → Shared → Prop), R (.yield st) s → wpAny (model P w) A (body x st) R E s)
    (last : ∀ x, F x → ∀ (R : ForInStep S → Shared → Prop), R (.done st') s → wpAny (model P w) A (body x st) R E s) :
    ∀ xs : List α, (∀ x ∈ xs, T x ∨ F x) → (∃ x ∈ xs, ¬ T x) → Q st' s → wpAny (model P w) A (forIn xs st body) Q E s
  | [], _, ⟨_, h, _⟩, _ => absurd h List.not_mem_nil
  | x :: xs, h, ne, q => by
    rw [List.forIn_cons]
    by_cases c : T x
    · refine wpAny_bind (turn x c _ ?_)
      refine loop_end turn last xs (fun y hy => h y (List.mem_cons_of_mem _ hy)) ?_ q
      obtain ⟨y, hy, hn⟩ := ne
      rcases List.mem_cons.mp hy with rfl | hy
      · exact absurd c hn
      · exact ⟨y, hy, hn⟩
    · refine wpAny_bind (last x ((h x List.mem_cons_self).resolve_left c) _ ?_)
      exact wpAny_pure q
theorem hash_no {s : Shared} {a : Addr} {o : Obj} {vs : Array Value} {m n : Nat} (ho : s.heap.get? a = some o) (hc : o.cls = .type "tuple") (hd : o.data = .seq vs m) (hq : ∀ v ∈ vs.toList, Says P w s (hashByValue n v) true ∨ Says P w s (hashByValue n v) false) (ne : ∃ v ∈ vs.toList, ¬ Says P w s (hashByValue n v) true) : Says P w s (hashByValue (n + 1) (.ref a)) false := fun A E Q q => by
  unfold hashByValue
  have ht : s.TypeIs (.ref a) "tuple" := ⟨o, ho, hc⟩
  refine wpAny_bind (wpAny_specialOf ht F.slot_tuple_hash.lookup ?_)
  show wpAny (model P w) A (seqItems? (.ref a) >>= _) Q E s
  refine wpAny_bind (wpAny_seqItems ho hd (wpAny_bind ?_))
  show wpAny (model P w) A (forIn vs _ _) _ E s
  rw [← Array.forIn_toList]
  refine loop_end (st' := (some false, ())) (T := fun v => Says P w s (hashByValue n v) true) (F := fun v => Says P w s (hashByValue n v) false) ?_ ?_ vs.toList hq ne ?_
  · intro v hv R r
    refine wpAny_bind (hv _ _ _ ?_)
    simp only [Bool.not_true, Bool.false_eq_true, if_false]
    exact wpAny_pure r
  · intro v hv R r
    refine wpAny_bind (hv _ _ _ ?_)
    simp only [Bool.not_false, if_true]
    exact wpAny_pure r
  · exact wpAny_pure q
theorem hash_any {s : Shared} {a : Addr} {o : Obj} {vs : Array Value} {m n : Nat} (ho : s.heap.get? a = some o) (hc : o.cls = .type "tuple") (hd : o.data = .seq vs m) (hq : ∀ v ∈ vs.toList, ∃ b, Says P w s (hashByValue n v) b) : ∃ b, Says P w s (hashByValue (n + 1) (.ref a)) b := by
  by_cases c : ∀ v ∈ vs.toList, Says P w s (hashByValue n v) true
  · exact ⟨true, hash_tup ho hc hd c⟩
  · refine ⟨false, hash_no ho hc hd (fun v hv => ?_) ?_⟩
    · obtain ⟨b, h⟩ := hq v hv
      cases b
      · exact .inr h
      · exact .inl h
    · simpa using c
mutual
theorem hash_key : ∀ (k : NestedKey) (v : Value) (n : Nat) (s : Shared), NestedIs s.heap k v → k.depth ≤ n → ∃ b, Says P w s (hashByValue n v) b
  | .none, _, n, s, x, _ => by cases x; exact ⟨true, by cases n <;> exact says_pure⟩
  | .num i, _, n, s, x, _ => by cases x <;> exact ⟨true, by cases n <;> exact says_pure⟩
  | .text y, _, n, s, x, _ => by cases x; exact ⟨false, by cases n <;> exact says_pure⟩
  | .tup ks, _, 0, s, x, hn => by simp [NestedKey.depth] at hn
  | .tup ks, _, n + 1, s, x, hn => by
    cases x with
    | tup ho hc hd hk => exact hash_any ho hc hd (hash_keys ks _ n s hk (by simp only [NestedKey.depth] at hn; omega))
theorem hash_keys : ∀ (ks : List NestedKey) (vs : List Value) (n : Nat) (s : Shared), NestedAll s.heap ks vs → NestedKey.depthAll ks ≤ n → ∀ v ∈ vs, ∃ b, Says P w s (hashByValue n v) b
  | [], _, n, s, x, _, v, hv => by cases x; cases hv
  | k :: ks, _, n, s, x, hn, v, hv => by
    cases x with
    | cons x1 x2 =>
      simp only [NestedKey.depthAll] at hn
      rcases List.mem_cons.mp hv with rfl | hv
      · exact hash_key k _ n s x1 (by omega)
      · exact hash_keys ks _ n s x2 (by omega) v hv
end
/-- the tuple at a is the key k -/
structure El (h : Heap) (k : NestedKey) (a : Addr) : Prop where
  is : NestedIs h k (.ref a)
  dp : k.depth ≤ 8
  pu : intK k = true
theorem El.keep {h h' : Heap} {k : NestedKey} {a : Addr} (e : El h k a) (kp : ∀ b o vs n, h.get? b = some o → o.data = .seq vs n → h'.get? b = some o) : El h' k a := ⟨e.is.at kp, e.dp, e.pu⟩
theorem El.all {h h' : Heap} {k : NestedKey} {a : Addr} (e : El h k a) (kp : ∀ b o, h.get? b = some o → h'.get? b = some o) : El h' k a := e.keep fun b o _ _ q _ => kp b o q
theorem El.put {h h' : Heap} {k : NestedKey} {a b : Addr} {o : Obj} {es : Array (Int × Value)} {ep : Nat} {t : SetTable} (e : El h k a) (ho : h.get? b = some o) (hd : o.data = .set es ep t) (sb : Heap.SameBut b h h') : El h' k a := e.keep fun c u vs n q qd => by
  have ne : c ≠ b := by
    rintro rfl
    rw [ho] at q; cases q
    rw [hd] at qd; exact nomatch qd
  exact (sb.2 c ne).trans q
theorem El.cls {s : Shared} {k : NestedKey} {a : Addr} (e : El s.heap k a) : Says P w s (ofAClassStatement 8 (.ref a)) false := class_key k _ 8 s e.is e.dp
theorem El.hsh {s : Shared} {k : NestedKey} {a : Addr} (e : El s.heap k a) : ∃ b, Says P w s (hashByValue 8 (.ref a)) b := hash_key k _ 8 s e.is e.dp
theorem El.qui {s : Shared} {k : NestedKey} {a : Addr} (e : El s.heap k a) : Says P w s (eqIsQuiet 8 (.ref a)) true := fun A E Q q => quiet_key k _ 8 s e.is e.dp A E Q q
/-- a search among such tuples shows nothing -/
theorem El.seen {s : Shared} {k : NestedKey} {a : Addr} (e : El s.heap k a) {ys : List Value} (hy : ∀ y ∈ ys, ∃ k' c, y = Value.ref c ∧ El s.heap k' c) : Says P w s (searchCouldBeSeen (.ref a) ys) false := fun A E Q q => by
  unfold searchCouldBeSeen
  refine wpAny_bind (loop_on (T := fun y => ∃ k' c, y = Value.ref c ∧ El s.heap k' c) ?_ ys hy ?_)
  · intro v hv R r
    obtain ⟨k', c, rfl, e'⟩ := hv
    dsimp only
    by_cases c1 : (a == c || (carriedByValue (.ref a) && carriedByValue (.ref c))) = true
    · exact wp_if_pos c1 (wpAny_pure r)
    · refine wp_if_neg c1 (wpAny_bind (e.qui _ _ _ ?_))
      simp only [Bool.not_true, Bool.false_eq_true, if_false]
      refine wpAny_bind (e'.qui _ _ _ ?_)
      simp only [Bool.not_true, Bool.false_eq_true, if_false]
      refine wpAny_bind (e.cls _ _ _ ?_)
      simp only [Bool.false_eq_true, if_false]
      refine wpAny_bind (e'.cls _ _ _ ?_)
      simp only [Bool.false_eq_true, if_false]
      exact wpAny_pure r
  · exact wpAny_pure q
end
end DLS
end
section
namespace DLS
open PySem PySem.Spec PyProof.Rows L2
abbrev Ent := Addr × NestedKey
abbrev hk (w : World) (k : NestedKey) : Int := k.hash w
def rws (w : World) (L : List Ent) : List (Int × Value) := L.map fun e => (hk w e.2, Value.ref e.1)
/-- where the way of the hash stands -/
abbrev pb (t : SetTable) (z : Int) (n : Nat) : SetTable.Probe := nth t.mask (runAt t.mask (SetTable.bits z % (t.mask + 1)) (SetTable.bits z)) n
/-- the set at a holds the entries L, in the table's order -/
structure Tb (w : World) (h : Heap) (a : Addr) (L : List Ent) (es : Array (Int × Value)) (ep : Nat) (t : SetTable) : Prop where
  at_ : ∃ o, h.get? a = some o ∧ o.ExactSet ∧ o.data = .set es ep t
  rw_ : es.toList = rws w L
  tab : TabOk t (L.map fun e => hk w e.2)
  dif : (L.map (·.2)).Nodup
  els : ∀ e ∈ L, El h e.2 e.1
  led : w.params.followText "set-order" = true ∨ t.led = true
  spc : L.length * 5 < t.mask * 3
  few : L.length < 77
section
variable {P : Program} {w : World} {A : Around} {E : Value → Shared → Prop} {s : Shared} {a : Addr} {L : List Ent} {es : Array (Int × Value)} {ep : Nat} {t : SetTable}
theorem rws_len (L : List Ent) : (rws w L).length = L.length := by unfold rws; rw [List.length_map]
theorem size_of (h : es.toList = rws w L) : es.size = L.length := by rw [← rws_len (w := w) L, ← h, Array.length_toList]
theorem fits_of {hs : List Int} (T : TabOk t hs) (hl : es.size = hs.length) (hm : hs.length ≤ t.mask) : t.fits es.size = true := by
  have z := T.sz
  unfold SetTable.fits SetTable.fill
  rw [T.dm, Bool.and_eq_true, beq_iff_eq, decide_eq_true_eq]
  constructor
  · rw [z, hl]
  · show t.place.size + 0 ≤ t.mask
    omega
theorem Tb.sz (B : Tb w s.heap a L es ep t) : es.size = L.length := size_of B.rw_
theorem Tb.fits (B : Tb w s.heap a L es ep t) : t.fits es.size = true := fits_of B.tab (by rw [List.length_map]; exact B.sz) (by rw [List.length_map]; have := B.spc; omega)
theorem Tb.ent (B : Tb w s.heap a L es ep t) {i : Nat} {e : Ent} (h : L[i]? = some e) : es[i]? = some (hk w e.2, Value.ref e.1) := by
  have z : es.toList[i]? = some (hk w e.2, Value.ref e.1) := by
    rw [B.rw_]; unfold rws; rw [List.getElem?_map, h]; rfl
  rw [← Array.getElem?_toList]; exact z
theorem pb_dummy (t : SetTable) (z : Int) (n : Nat) : (pb t z n).dummy = none := by
  have go : ∀ (n : Nat) (p : SetTable.Probe), p.dummy = none → (nth t.mask p n).dummy = none := by
    intro n
    induction n with
    | zero => exact fun p q => q
    | succ n ih =>
      intro p q
      apply ih (adv t.mask p)
      unfold adv
      split <;> exact q
  exact go n _ rfl
theorem pb_add (t : SetTable) (z : Int) (n q : Nat) : nth t.mask (pb t z n) q = pb t z (n + q) := (nth_add t.mask n _ q).symm
theorem pb_j (t : SetTable) (z : Int) (n q : Nat) : (nth t.mask (pb t z n) q).j = way t.mask z (n + q) := congrArg SetTable.Probe.j (pb_add t z n q)

/-- the search for x from the c-th place of its way -/
theorem look_from (B : Tb w s.heap a L es ep t) {x : Addr} {k : NestedKey} (el : El s.heap k x) (hu : A.units + 8 < cLine) {N : Nat} (big : N < 10 * SetTable.turns t.mask) (fr : way t.mask (hk w k) N ∉ t.place.toList)
    (oc : ∀ c, c < N → way t.mask (hk w k) c ∈ t.place.toList) {Q : SetFound → Shared → Prop} (yes : k ∈ L.map (·.2) → Q (.there none) s) (no : k ∉ L.map (·.2) → Q (.free (way t.mask (hk w k) N) false) s) :
    ∀ (fuel c : Nat) (from_ : Option SetTable.Probe), from_.getD (t.probeStart (hk w k)) = pb t (hk w k) c → c ≤ N → N - c < fuel →
      (∀ (i : Nat) e, L[i]? = some e → e.2 = k → ∃ c', c ≤ c' ∧ c' < N ∧ t.place.toList[i]? = some (way t.mask (hk w k) c')) → wpAny (model P w) A (setSearchFrom a (.ref x) (hk w k) true fuel from_) Q E s := by
  intro fuel
  induction fuel with
  | zero => intro c _ _ _ z; exact absurd z (Nat.not_lt_zero _)
  | succ fuel ih =>
    intro c from_ e0 hc hf mt
    obtain ⟨o, ho, _, hd⟩ := B.at_
    have gw : ¬ t.gaveWay = true := by
      unfold SetTable.gaveWay
      rw [mask_odd B.tab.mok]
      decide
    rw [setSearchFrom_succ]
    refine wpAny_bind (wpAny_setState_of ho hd B.fits ?_)
    dsimp only
    refine wp_if_neg gw ?_
    try refine wpAny_bind (wpAny_pure ?_)
    have hashOf : ∀ (i : Nat) e, L[i]? = some e → (es[i]?.map (·.1)).getD 0 = hk w e.2 := fun i e q => by rw [B.ent q]; rfl
    have met := go_spec t B.tab.ris B.tab.dm (fun i => (es[i]?.map (·.1)).getD 0) (hk w k) (10 * SetTable.turns t.mask) (N - c) (pb t (hk w k) c) (pb_dummy t _ c) (by omega) (fun q hq => by rw [pb_j]; exact oc (c + q) (by omega))
      (by rw [pb_j, show c + (N - c) = N by omega]; exact fr)
    rcases met with ⟨q, i, hq, hi, hh, hno, hpr⟩ | ⟨hno, hpr⟩
    · rw [pb_j] at hi
      have pr : t.probe (fun i => (es[i]?.map (·.1)).getD 0) (hk w k) (from_.getD (t.probeStart (hk w k))) = some (.candidate (way t.mask (hk w k) (c + q)) i (pb t (hk w k) (c + (q + 1)))) := by rw [e0, ← pb_j, ← pb_add]; exact hpr
      rw [pr]
      dsimp only
      have il : i < L.length := by
        have z1 : i < t.place.toList.length := (List.getElem?_eq_some_iff.mp hi).1
        have z2 := B.tab.sz
        rw [List.length_map] at z2
        rw [Array.length_toList] at z1
        omega
      obtain ⟨e, le⟩ : ∃ e, L[i]? = some e := ⟨_, List.getElem?_eq_getElem il⟩
      have me : e ∈ L := List.mem_of_getElem? le
      have live : t.slot (way t.mask (hk w k) (c + q)) = .live i := slot_live B.tab.ris hi
      have go : wpAny (model P w) A (searchRest a (.ref x) (hk w k) true fuel es t (way t.mask (hk w k) (c + q)) i (pb t (hk w k) (c + (q + 1)))) Q E s := by
        unfold searchRest
        rw [B.ent le]
        dsimp only
        have ea := eqAt_key e.2 k A s (.ref e.1) (.ref x) (B.els e me).is el.is (by have := el.dp; omega) P w
        refine wpAny_bind (wpAny_holding (ea _ _ ?_))
        refine wpAny_bind (wpAny_setState_of ho hd B.fits ?_)
        dsimp only
        by_cases same : e.2 = k
        · have b1 : NestedKey.beq e.2 k = true := by rw [same]; exact NestedKey.beq_self k
          refine wp_if_pos (by simp [b1]) (wpAny_pure (yes ?_))
          exact List.mem_map.mpr ⟨e, me, same⟩
        · have b0 : NestedKey.beq e.2 k = false := by
            cases z : NestedKey.beq e.2 k with
            | false => rfl
            | true => exact absurd (NestedKey.eq_of_beq _ _ z) same
          refine wp_if_neg (by simp [b0]) ?_
          try refine wpAny_bind (wpAny_pure ?_)
          rw [sameMem]
          dsimp only
          simp only [if_true, live, B.ent le]
          refine wpAny_bind (wpAny_isSame_ref_self (wpAny_bind (wpAny_pure ?_)))
          simp only [if_true]
          refine wp_if_neg (by simp [b0]) ?_
          refine ih (c + (q + 1)) (some (pb t (hk w k) (c + (q + 1)))) rfl (by omega) (by omega) fun i2 e2 l2 k2 => ?_
          obtain ⟨c', g1, g2, g3⟩ := mt i2 e2 l2 k2
          refine ⟨c', ?_, g2, g3⟩
          rcases Nat.lt_trichotomy c' (c + q) with z | z | z
          · exfalso
            refine hno (c' - c) i2 (by omega) ?_ ?_
            · rw [pb_j, show c + (c' - c) = c' by omega]; exact g3
            · exact (hashOf i2 e2 l2).trans (congrArg (hk w) k2)
          · exfalso
            rw [z] at g3
            have l3 := slot_live B.tab.ris g3
            rw [live] at l3
            injection l3 with l3
            rw [← l3, le] at l2
            cases l2
            exact same k2
          · omega
      by_cases ld : t.led = true
      · refine wp_if_neg (by simp [ld]) ?_
        try refine wpAny_bind (wpAny_pure ?_)
        exact go
      · refine wp_if_pos (by simp [ld]) (wpAny_bind (el.seen (P := P) (w := w) (fun y hy => ?_) _ _ _ ?_))
        · obtain ⟨r, hr, er⟩ := List.mem_map.mp hy
          have hr1 : r ∈ es ∧ r.1 = hk w k := by simpa using hr
          have hr2 : r ∈ rws w L := by rw [← B.rw_]; simpa using hr1.1
          obtain ⟨e3, h3, r3⟩ := List.mem_map.mp hr2
          exact ⟨e3.2, e3.1, by rw [← er, ← r3], B.els e3 h3⟩
        · refine wp_if_neg (by decide) ?_
          try refine wpAny_bind (wpAny_pure ?_)
          exact go
    · have pr : t.probe (fun i => (es[i]?.map (·.1)).getD 0) (hk w k) (from_.getD (t.probeStart (hk w k))) = some (.empty (way t.mask (hk w k) N) none) := by
        have z : way t.mask (hk w k) N = (nth t.mask (pb t (hk w k) c) (N - c)).j := by rw [pb_j, show c + (N - c) = N by omega]
        rw [e0, z]; exact hpr
      rw [pr]
      dsimp only
      refine wpAny_pure (no fun hm => ?_)
      obtain ⟨e, he, ke⟩ := List.mem_map.mp hm
      obtain ⟨i, hi, ei⟩ := List.getElem_of_mem he
      have li : L[i]? = some e := by rw [List.getElem?_eq_getElem hi, ei]
      obtain ⟨c', g1, g2, g3⟩ := mt i e li ke
      refine hno (c' - c) i (by omega) ?_ ?_
      · rw [pb_j, show c + (c' - c) = c' by omega]; exact g3
      · exact (hashOf i e li).trans (congrArg (hk w) ke)
/-- .. as adding asks -/
theorem look_at (B : Tb w s.heap a L es ep t) {x : Addr} {k : NestedKey} (el : El s.heap k x) (hu : A.units + 8 < cLine) {Q : SetFound → Shared → Prop} (yes : k ∈ L.map (·.2) → Q (.there none) s)
    (no : ∀ N, k ∉ L.map (·.2) → way t.mask (hk w k) N ∉ t.place.toList → (∀ c, c < N → way t.mask (hk w k) c ∈ t.place.toList) → Q (.free (way t.mask (hk w k) N) false) s) : wpAny (model P w) A (setSearch a (.ref x) (hk w k) true) Q E s := by
  have sp := B.spc
  obtain ⟨N, big, fr, oc⟩ := B.tab.first (by rw [List.length_map]; omega) (hk w k)
  have lim : 10 * SetTable.turns t.mask ≤ 1420 := by
    unfold SetTable.turns
    rcases B.tab.mok with e | e | e <;> omega
  unfold setSearch
  refine look_from B el hu big fr oc yes (fun z => no N z fr oc) 100000 0 none rfl (Nat.zero_le _) (by omega) fun i e le ke => ?_
  have hi : (L.map fun e => hk w e.2)[i]? = some (hk w k) := by rw [List.getElem?_map, le, ← ke]; rfl
  have il : i < t.place.toList.length := by
    have z1 : i < L.length := (List.getElem?_eq_some_iff.mp le).1
    have z2 := B.tab.sz
    rw [List.length_map] at z2
    rw [Array.length_toList]; omega
  have hj := List.getElem?_eq_getElem il
  obtain ⟨c, hc, ec⟩ := B.tab.before fr hi hj
  exact ⟨c, Nat.zero_le _, hc, by rw [hj, ec]⟩
end
end DLS
end
section
namespace DLS
open PySem PySem.Spec PyProof.Rows L2
section
variable {P : Program} {w : World} {A : Around} {E : Value → Shared → Prop} {s : Shared} {a : Addr} {L : List Ent} {es : Array (Int × Value)} {ep : Nat} {t : SetTable}
/-- the rows in another order -/
theorem rws_order (L : List Ent) (es : Array (Int × Value)) (ord : Array Nat) (hr : es.toList = rws w L) (pm : ord.toList.Perm (List.range L.length)) :
    ∃ M : List Ent, (ord.filterMap (es[·]?)).toList = rws w M ∧ M.Perm L ∧ (M.map fun e => hk w e.2) = ord.toList.map fun i => (es.map (·.1)).getD i 0 := by
  have at_ : ∀ (i : Nat) (e : Ent), L[i]? = some e → es[i]? = some (hk w e.2, Value.ref e.1) := fun i e q => by
    rw [← Array.getElem?_toList, hr]; unfold rws; rw [List.getElem?_map, q]; rfl
  have step : ∀ l : List Nat, (∀ i ∈ l, i < L.length) → (l.filterMap fun i => es[i]?) = rws w (l.filterMap fun i => L[i]?) ∧ ((l.filterMap fun i => L[i]?).map fun e => hk w e.2) = l.map fun i => (es.map (·.1)).getD i 0 := by
    intro l
    induction l with
    | nil => exact fun _ => ⟨rfl, rfl⟩
    | cons i l ih =>
      intro h
      obtain ⟨e, le⟩ : ∃ e, L[i]? = some e := ⟨_, List.getElem?_eq_getElem (h i List.mem_cons_self)⟩
      obtain ⟨i1, i2⟩ := ih fun j hj => h j (List.mem_cons_of_mem _ hj)
      have q := at_ i e le
      have g : (es.map (·.1)).getD i 0 = hk w e.2 := by
        have : (es.map (·.1))[i]? = some (hk w e.2) := by rw [Array.getElem?_map, q]; rfl
        rw [Array.getD_eq_getD_getElem?, this]; rfl
      constructor
      · rw [List.filterMap_cons_some q, List.filterMap_cons_some le, i1]; rfl
      · rw [List.filterMap_cons_some le, List.map_cons, List.map_cons, i2, g]
  obtain ⟨h1, h2⟩ := step ord.toList fun i hi => List.mem_range.mp (pm.mem_iff.mp hi)
  refine ⟨_, (by rw [← h1]; first | (rw [Array.toList_filterMap]) | simp), ?_, h2⟩
  have whole : (List.range L.length).filterMap (fun i => L[i]?) = L := by
    have part : ∀ n, n ≤ L.length → (List.range n).filterMap (fun i => L[i]?) = L.take n := by
      intro n
      induction n with
      | zero => exact fun _ => rfl
      | succ n ih =>
        intro hn
        have lt : n < L.length := hn
        rw [List.range_succ, List.filterMap_append, ih (by omega), List.filterMap_cons_some (List.getElem?_eq_getElem lt), List.take_succ, List.getElem?_eq_getElem lt]; rfl
    rw [part _ (Nat.le_refl _), List.take_length]
  have p2 := pm.filterMap fun i => L[i]?
  rw [whole] at p2
  exact p2
/-- a larger table -/
theorem widen {o : Obj} (ho : s.heap.get? a = some o) (hx : o.ExactSet) (hd : o.data = .set es ep t) (hr : es.toList = rws w L) (T : TabOk t (L.map fun e => hk w e.2)) (hm : L.length ≤ t.mask) (dif : (L.map (·.2)).Nodup) (els : ∀ e ∈ L, El s.heap e.2 e.1)
    (ld : w.params.followText "set-order" = true ∨ t.led = true) (few : L.length < 77) {want M : Nat} (hw : SetTable.sizeAbove want - 1 = M) (mo : MaskOk M) (hw2 : SetTable.sizeAbove want ≤ 128) (sp : L.length * 5 < M * 3) {Q : Unit → Shared → Prop}
    (q : ∀ h' L' es' ep' t', Heap.SameBut a s.heap h' → Tb w h' a L' es' ep' t' → L'.Perm L → Q () { s with heap := h' }) : wpAny (model P w) A (setRelay a want) Q E s := by
  have len := size_of hr
  have fit : t.fits es.size = true := fits_of T (by rw [List.length_map]; exact len) (by rw [List.length_map]; exact hm)
  obtain ⟨t', ord, eq, pm, T', em, el, epl, ed⟩ := relaid_ok t (hs := es.map (·.1)) (wanted := want) hw mo (by rw [Array.size_map, len]; omega)
  rw [Array.size_map, len] at pm
  obtain ⟨L2, r1, r2, r3⟩ := rws_order L es ord hr pm
  rw [← r3] at T'
  have z2 : (ord.filterMap (es[·]?)).size = es.size := by rw [size_of r1, r2.length_eq, len]
  rw [setRelay_eq]
  refine wpAny_bind (wpAny_setState_of ho hd fit ?_)
  dsimp only
  refine wp_if_neg (by rw [sizeLine_eq]; omega) ?_
  try refine wpAny_bind (wpAny_pure ?_)
  rw [eq]
  dsimp only
  refine wpAny_bind (wp_if_neg (by rw [z2]; simp) ?_)
  try refine wpAny_bind (wpAny_pure ?_)
  refine wpAny_pure ?_
  dsimp only
  refine wpAny_storeSet_of ho hd ?_ (by rw [z2, len, sizeLine_eq]; omega)
  have sb : Heap.SameBut a s.heap (s.heap.update a (Obj.putSet (ord.filterMap (es[·]?)) t')) := Heap.SameBut.update ..
  have ld' : w.params.followText "set-order" = true ∨ t'.led = true := by rw [el]; exact ld
  exact q _ L2 _ (ep + 1) t' sb ⟨⟨_, store_at ho hd, ⟨hx.1, hx.2.1, hx.2.2⟩, rfl⟩, r1, T', (r2.map (·.2)).nodup_iff.mpr dif, fun e he => (els e (r2.mem_iff.mp he)).put ho hd sb, ld', by rw [r2.length_eq, em]; exact sp, by rw [r2.length_eq]; exact few⟩ r2
/-- x is added -/
theorem add_el (B : Tb w s.heap a L es ep t) {x : Addr} {k : NestedKey} (el : El s.heap k x) (hu : A.units + 8 < cLine) (room : k ∉ L.map (·.2) → L.length + 1 < 77) {Q : Bool → Shared → Prop}
    (q : ∀ b h' L' es' ep' t', Heap.SameBut a s.heap h' → Tb w h' a L' es' ep' t' → (k ∈ L.map (·.2) → L' = L) → (k ∉ L.map (·.2) → L'.Perm ((x, k) :: L)) → Q b { s with heap := h' }) : wpAny (model P w) A (setAddHashed a (.ref x) (hk w k)) Q E s := by
  obtain ⟨o, ho, hx, hd⟩ := B.at_
  have len := B.sz
  have sp := B.spc
  unfold setAddHashed
  refine wpAny_holding ?_
  rw [show (100000 : Nat) = 99999 + 1 from rfl, setAddHashedIn_succ]
  refine wpAny_bind (wpAny_setState_of ho hd B.fits ?_)
  dsimp only
  refine wp_if_neg (by simp [byScan, Value.scannable]) ?_
  try refine wpAny_bind (wpAny_pure ?_)
  refine wpAny_bind (look_at B el hu (fun hm => ?_) fun N hm fr oc => ?_)
  · dsimp only
    exact wpAny_pure (q false s.heap L es ep t (Heap.SameBut.refl a s.heap) B (fun _ => rfl) fun z => absurd hm z)
  dsimp only
  have few1 := room hm
  refine wpAny_bind (wpAny_setState_of ho hd B.fits ?_)
  dsimp only
  obtain ⟨g1, g2, g3, g4, g5, g6, g7, g8, g9⟩ := B.tab.put fr oc
  generalize hpt : t.put (way t.mask (hk w k) N) = pt at g1 g3 g4 g5 g6 g7 g8 g9 ⊢
  obtain ⟨t1, j⟩ := pt
  dsimp only at g1 g3 g4 g5 g6 g7 g8 g9 ⊢
  subst g1
  obtain ⟨b, hb⟩ := el.hsh (P := P) (w := w)
  have rest : ∀ t2 : SetTable, t2.place = t1.place → t2.dummies = t1.dummies → t2.mask = t1.mask → t2.led = t1.led → t2.fill = t1.fill → wpAny (model P w) A (storeSet a (SetTable.insertAt es (SetTable.below t.place (way t.mask (hk w k) N)) (hk w k, Value.ref x)) t2 >>= fun _ => if (!false && t2.tooFull) = true then (setRelay a (SetTable.grown (es.size + 1)) >>= fun _ => pure true) else pure true) Q E s := by
    intro t2 s1 s2 s3 s4 s5
    have g3 : TabOk t2 _ := ⟨by rw [s1]; exact g3.ris, by rw [s2]; exact g3.dm, by rw [s1]; exact g3.sz, by rw [s3]; exact g3.mok, by rw [s1, s3]; exact g3.bd, by rw [s1, s3]; exact g3.reach⟩
    have g4 := s3.trans g4
    have g5 := s4.trans g5
    have g9 := s5.trans g9
    clear s1 s2 s3 s4 s5 hb
    clear g6 g7 g8
    revert t2
    intro t1 g3 g4 g5 g9
    generalize hj : SetTable.below t.place (way t.mask (hk w k) N) = j at g2 g3 ⊢
    have pm := put_perm L j (x, k)
    have rw1 : (SetTable.insertAt es j (hk w k, Value.ref x)).toList = rws w (L.take j ++ (x, k) :: L.drop j) := by
      rw [SetTable.toList_insertAt, B.rw_]
      unfold rws
      rw [List.map_append, List.map_cons, List.map_take, List.map_drop]
    have tb1 : (L.take j ++ (x, k) :: L.drop j).map (fun e => hk w e.2) = (L.map fun e => hk w e.2).take j ++ hk w k :: (L.map fun e => hk w e.2).drop j := by rw [List.map_append, List.map_cons, List.map_take, List.map_drop]
    rw [← tb1] at g3
    have dif1 : ((L.take j ++ (x, k) :: L.drop j).map (·.2)).Nodup := by
      refine (pm.map (·.2)).nodup_iff.mpr ?_
      rw [List.map_cons]
      exact List.nodup_cons.mpr ⟨hm, B.dif⟩
    generalize SetTable.insertAt es j (hk w k, Value.ref x) = es1 at rw1 ⊢
    generalize L.take j ++ (x, k) :: L.drop j = L1 at pm g3 dif1 rw1
    have len1 : L1.length = L.length + 1 := pm.length_eq
    have sz1 : es1.size = L.length + 1 := by rw [size_of rw1, len1]
    refine wpAny_bind (wpAny_storeSet_of ho hd ?_ (by rw [sz1, sizeLine_eq]; omega))
    have sb : Heap.SameBut a s.heap (s.heap.update a (Obj.putSet es1 t1)) := Heap.SameBut.update ..
    have ho1 := store_at (es' := es1) (t' := t1) ho hd
    generalize s.heap.update a (Obj.putSet es1 t1) = h1 at sb ho1 ⊢
    have els1 : ∀ e ∈ L1, El h1 e.2 e.1 := fun e he => by
      rcases List.mem_cons.mp (pm.mem_iff.mp he) with z | z
      · rw [z]; exact el.put ho hd sb
      · exact (B.els e z).put ho hd sb
    have ld1 : w.params.followText "set-order" = true ∨ t1.led = true := by rw [g5]; exact B.led
    by_cases full : t1.tooFull = true
    · first
        | (refine wpAny_bind ?_; refine wp_if_pos (by simp [full]) ?_)
        | (refine wp_if_pos (by simp [full]) ?_; refine wpAny_bind ?_)
      have fl : (L.length + 1) * 5 ≥ t1.mask * 3 := by
        have z := full
        unfold SetTable.tooFull at z
        rw [decide_eq_true_eq, g9, List.length_map] at z
        exact z
      rw [len]
      have two : (t.mask = 7 ∧ L.length = 4) ∨ (t.mask = 31 ∧ L.length = 18) := by
        rcases B.tab.mok with e | e | e
        · rw [g4, e] at fl; rw [e] at sp; exact .inl ⟨e, by omega⟩
        · rw [g4, e] at fl; rw [e] at sp; exact .inr ⟨e, by omega⟩
        · rw [g4, e] at fl; omega
      have mk : L1.length ≤ t1.mask := by rw [g4]; rcases two with ⟨e, e2⟩ | ⟨e, e2⟩ <;> omega
      have run : ∀ M, SetTable.sizeAbove (SetTable.grown (L.length + 1)) - 1 = M → MaskOk M → SetTable.sizeAbove (SetTable.grown (L.length + 1)) ≤ 128 → (L.length + 1) * 5 < M * 3 →
          wpAny (model P w) A (setRelay a (SetTable.grown (L.length + 1))) (fun _ s' => wpAny (model P w) A (pure true) Q E s') E { s with heap := h1 } := fun M m1 m2 m3 m4 =>
        widen (s := { s with heap := h1 }) ho1 ⟨hx.1, hx.2.1, hx.2.2⟩ rfl rw1 g3 mk dif1 els1 ld1 (by rw [len1]; exact few1) m1 m2 m3 (by rw [len1]; exact m4) fun h2 L2 es2 ep2 t2 sb2 B2 pm2 =>
          wpAny_pure (q true h2 L2 es2 ep2 t2 (sb.trans sb2) B2 (fun z => absurd z hm) fun _ => pm2.trans pm)
      rcases two with ⟨_, e2⟩ | ⟨_, e2⟩
      · exact run 31 (by rw [e2, size_20]) (.inr (.inl rfl)) (by rw [e2, size_20]; decide) (by omega)
      · exact run 127 (by rw [e2, size_76]) (.inr (.inr rfl)) (by rw [e2, size_76]; decide) (by omega)
    · first
        | refine wp_if_neg (by simp [full]) ?_
        | (refine wpAny_bind ?_; refine wp_if_neg (by simp [full]) ?_; refine wpAny_pure ?_)
      have nf : L1.length * 5 < t1.mask * 3 := by
        have z := full
        unfold SetTable.tooFull at z
        rw [decide_eq_true_eq, g9, List.length_map] at z
        rw [len1]
        omega
      exact wpAny_pure (q true h1 L1 es1 (ep + 1) t1 sb ⟨⟨_, ho1, ⟨hx.1, hx.2.1, hx.2.2⟩, rfl⟩, rw1, g3, dif1, els1, ld1, nf, by rw [len1]; exact few1⟩ (fun z => absurd z hm) fun _ => pm)
  by_cases pl : t1.plain = true
  · refine wp_if_pos pl (wpAny_bind (hb _ _ _ ?_))
    cases b
    · exact rest { t1 with plain := false } rfl rfl rfl rfl rfl
    · exact rest t1 rfl rfl rfl rfl rfl
  · refine wp_if_neg pl (wpAny_bind (wpAny_pure ?_))
    exact rest t1 rfl rfl rfl rfl rfl
end
end DLS
end
section
namespace DLS
open PySem PySem.Spec PyProof.Rows L2
section
variable {P : Program} {w : World} {A : Around} {E : Value → Shared → Prop} {s : Shared}
/-- what the first n of the entries ks have come to -/
structure Upto (ks : List Ent) (n : Nat) (L : List Ent) : Prop where
  sub : ∀ e ∈ L, e ∈ ks.take n
  all : ∀ e ∈ ks.take n, e.2 ∈ L.map (·.2)
theorem upto_zero (ks : List Ent) : Upto ks 0 [] := ⟨fun e h => absurd h List.not_mem_nil, fun e h => absurd (show e ∈ ([] : List Ent) from h) List.not_mem_nil⟩
theorem take_one {ks : List Ent} {n : Nat} {x : Ent} (h : ks[n]? = some x) : ks.take (n + 1) = ks.take n ++ [x] := by rw [List.take_succ, h]; rfl
theorem Upto.old {ks L : List Ent} {n : Nat} {x : Ent} (u : Upto ks n L) (h : ks[n]? = some x) (hm : x.2 ∈ L.map (·.2)) : Upto ks (n + 1) L := by
  rw [show Upto ks (n + 1) L ↔ _ from Iff.rfl]
  constructor <;> rw [take_one h]
  · exact fun e he => List.mem_append_left _ (u.sub e he)
  · intro e he
    rcases List.mem_append.mp he with z | z
    · exact u.all e z
    · rw [List.mem_singleton.mp z]; exact hm
theorem Upto.new {ks L M : List Ent} {n : Nat} {x : Ent} (u : Upto ks n L) (h : ks[n]? = some x) (pm : M.Perm (x :: L)) : Upto ks (n + 1) M := by
  constructor <;> rw [take_one h]
  · intro e he
    rcases List.mem_cons.mp (pm.mem_iff.mp he) with z | z
    · exact List.mem_append_right _ (by rw [z]; exact List.mem_singleton.mpr rfl)
    · exact List.mem_append_left _ (u.sub e z)
  · intro e he
    rw [(pm.map (·.2)).mem_iff, List.map_cons]
    rcases List.mem_append.mp he with z | z
    · exact List.mem_cons_of_mem _ (u.all e z)
    · rw [List.mem_singleton.mp z]; exact List.mem_cons_self
/-- fewer than 64 keys in all -/
def Few (ks : List Ent) : Prop := ∀ M : List NestedKey, M.Nodup → (∀ k ∈ M, k ∈ ks.map (·.2)) → M.length < 77
theorem tb_fresh {h : Heap} {a : Addr} (ho : h.get? a = some { cls := .type "set", dict := none, data := .set #[] 0 (.fresh 0 0 (!w.params.followText "set-order")) }) : Tb w h a [] #[] 0 (.fresh 0 0 (!w.params.followText "set-order")) := by
  have ld : w.params.followText "set-order" = true ∨ (!w.params.followText "set-order") = true := by cases w.params.followText "set-order" <;> simp
  exact ⟨⟨_, ho, ⟨rfl, rfl, rfl⟩, rfl⟩, rfl, ⟨List.Pairwise.nil, rfl, rfl, .inl rfl, fun x z => absurd z List.not_mem_nil, fun i z j q => by simp at q⟩, List.nodup_nil, fun e z => absurd z List.not_mem_nil, ld, (by show 0 * 5 < 7 * 3; decide), (by show 0 < 77; decide)⟩
theorem Tb.stay {h h' : Heap} {a : Addr} {L : List Ent} {es : Array (Int × Value)} {ep : Nat} {t : SetTable} (B : Tb w h a L es ep t) (ha : ∀ o, h.get? a = some o → h'.get? a = some o) (el : ∀ e ∈ L, El h' e.2 e.1) : Tb w h' a L es ep t := by
  obtain ⟨o, ho, r⟩ := B.at_
  exact ⟨⟨o, ha o ho, r⟩, B.rw_, B.tab, B.dif, el, B.led, B.spc, B.few⟩
/-- set.update, item by item -/
theorem fill_loop {I : Addr} {fp wr : List Addr} {G : Array GenState → Array GenState → Prop} {n : Nat} {Pv : Nat → Value → Prop} {St : Nat → Shared → Prop} {R : Result → Shared → Prop} (W : WalksS P w A.in1 I fp wr G n Pv St) (S : Addr) (nS : S ∉ fp)
    (ks : List Ent) (hn : n = ks.length) (few : Few ks) (val : ∀ i v, Pv i v → ∃ e, ks[i]? = some e ∧ v = .ref e.1) (h0 : Heap) (els : ∀ e ∈ ks, El h0 e.2 e.1) (s0 : h0.get? S = none) (w0 : ∀ b ∈ wr, h0.get? b = none) (hu : A.in1.units + 9 < cLine) :
    ∀ (left i : Nat) (s : Shared), n - i = left → i ≤ n → St i s → (∀ b o, h0.get? b = some o → s.heap.get? b = some o) → (∃ L es ep t, Tb w s.heap S L es ep t ∧ Upto ks i L) →
      (∀ s' L es ep t, Moved (S :: wr) G s s' → Tb w s'.heap S L es ep t → Upto ks n L → (∀ b o, h0.get? b = some o → s'.heap.get? b = some o) → R (.ok (.ret .none)) s') → codeAny (model P w) A (.builtin "set.update.loop" ⟨[.ref S, .ref I], []⟩) R s := by
  have nW : S ∉ wr := fun z => nS (W.sub _ z)
  have up : ∀ b ∈ wr, b ∈ S :: wr := fun b hb => List.mem_cons_of_mem _ hb
  have kpM : ∀ {s s' : Shared}, Moved wr G s s' → (∀ b o, h0.get? b = some o → s.heap.get? b = some o) → ∀ b o, h0.get? b = some o → s'.heap.get? b = some o := fun hm kp b o e => hm.heap b o (fun z => by rw [w0 b z] at e; cases e) (kp b o e)
  intro left
  induction left with
  | zero =>
    intro i s hl hi st kp ⟨L, es, ep, t, B, u⟩ fin
    obtain rfl : i = n := by omega
    refine codeAny_builtin F.entry_set_update_loop ?_
    rw [Around.under_plainId F.plain_set_update_loop _]
    show wpAny (model P w) A.in1 (pyNext (.ref I) >>= _) _ _ s
    refine wpAny_bind (W.done s _ _ st fun s' hm => ?_)
    show wpAny (model P w) A.in1 (ret Value.none) _ _ s'
    have kp' := kpM hm kp
    exact wpAny_pure (fin s' L es ep t (hm.mono up) (B.stay (fun o e => hm.heap S o nW e) fun e he => (els e (List.mem_of_mem_take (u.sub e he))).all kp') u kp')
  | succ left ih =>
    intro i s hl hi st kp ⟨L, es, ep, t, B, u⟩ fin
    have lt : i < n := by omega
    refine codeAny_builtin F.entry_set_update_loop ?_
    rw [Around.under_plainId F.plain_set_update_loop _]
    show wpAny (model P w) A.in1 (pyNext (.ref I) >>= _) _ _ s
    refine wpAny_bind (W.item i s _ _ lt st fun v s' hP st' hm => ?_)
    obtain ⟨e, he, rfl⟩ := val i v hP
    have kp' := kpM hm kp
    have B' : Tb w s'.heap S L es ep t := B.stay (fun o q => hm.heap S o nW q) fun e he => (els e (List.mem_of_mem_take (u.sub e he))).all kp'
    have x' : El s'.heap e.2 e.1 := (els e (List.mem_of_getElem? he)).all kp'
    show wpAny (model P w) A.in1 (holding [Value.ref e.1] (setAdd S (.ref e.1)) >>= _) _ _ s'
    refine wpAny_bind (wpAny_holding ?_)
    unfold setAdd
    refine wpAny_holding (wpAny_bind (pyHash_key e.2 (.ref e.1) A.in1 s' _ x'.is (by have := x'.dp; omega) ?_))
    have rm : e.2 ∉ L.map (·.2) → L.length + 1 < 77 := fun nm => by
      have z := few (e.2 :: L.map (·.2)) (List.nodup_cons.mpr ⟨nm, B.dif⟩) fun k hk => by
        rcases List.mem_cons.mp hk with rfl | hk
        · exact List.mem_map.mpr ⟨e, List.mem_of_getElem? he, rfl⟩
        · obtain ⟨e2, h2, rfl⟩ := List.mem_map.mp hk
          exact List.mem_map.mpr ⟨e2, List.mem_of_mem_take (u.sub e2 h2), rfl⟩
      simpa using z
    refine add_el (s := { s' with toks := s'.toks + e.2.draws }) B' x' (by omega) rm fun b h' L' es' ep' t' sb B2 c1 c2 => ?_
    have u' : Upto ks (i + 1) L' := by
      by_cases c : e.2 ∈ L.map (·.2)
      · rw [c1 c]; exact u.old he c
      · exact u.new he (c2 c)
    have kp2 : ∀ b o, h0.get? b = some o → h'.get? b = some o := fun b o q => (sb.2 b (fun z => by rw [z, s0] at q; cases q)).trans (kp' b o q)
    refine wpAny_pure ⟨plainId_quiet F.plain_set_update_loop _, ih (i + 1) _ (by omega) lt (W.frame _ s' _ _ st' (Nat.le_add_right _ _) fun b hb o q => ?_) kp2 ⟨L', es', ep', t', B2, u'⟩ fun s3 L3 es3 ep3 t3 hm3 B3 u3 kp3 => ?_⟩
    · rw [sb.2 b (fun z : b = S => nS (by rw [← z]; exact hb))]; exact q
    · refine fin s3 L3 es3 ep3 t3 (Moved.trans W.gtrans ((hm.mono up).then_heap (Nat.le_add_right _ _) fun b o hb q => ?_) hm3) B3 u3 kp3
      rw [sb.2 b (fun z : b = S => hb (by rw [z]; exact List.mem_cons_self))]; exact q
abbrev set0 (w : World) : Obj := { cls := .type "set", dict := none, data := .set #[] 0 (.fresh 0 0 (!w.params.followText "set-order")) }
/-- set(xs) -/
theorem make_set {l : Addr} {items : Array Value} (ks : List Ent) {Q : Value → Shared → Prop} (hh : A.handled = none) (hl : s.heap.IsList l items) (hit : items.toList = ks.map fun e => Value.ref e.1) (els : ∀ e ∈ ks, El s.heap e.2 e.1) (few : Few ks) (hu : A.units + 12 < cLine)
    (q : ∀ (h' : Heap) (tk : Nat) L es ep t, Tb w h' s.heap.objs.size L es ep t → Upto ks ks.length L → (∀ b o, s.heap.get? b = some o → h'.get? b = some o) → Q (.ref s.heap.objs.size) { s with heap := h', toks := tk }) : wpAny (model P w) A (call (.type "set") [.ref l]) Q E s := by
  have isz : items.size = ks.length := by
    have z := congrArg List.length hit
    rw [Array.length_toList, List.length_map] at z
    exact z
  obtain ⟨c0, tl0, hmro⟩ := F.called_set.mro
  have hmade := F.called_set.made
  have hsub := F.called_set.sub
  refine wpAny_call (codeAny_of_tree ?_)
  show wpAny _ _ (callAny (.type "set") _) _ _ _
  refine wpAny_pure ⟨Code.quiet_builtin _ (by decide +kernel), codeAny_builtin F.entry_type_call ?_⟩
  rw [Around.under_plain (weight_type_call_type "set" [.ref l] []) rfl]
  have k1 := F.called_set.notType
  have k2 := F.called_set.canCreate
  have k3 := F.typeCall_set_1 (.ref l)
  repeat (any_goals (first | assumption | wp_step))
  refine codeAny_mono (code_set_led1 (.ref l) (E := E) (Q₁ := fun ob s₁ => ob = .ref s.heap.objs.size ∧ s₁ = { s with heap := s.heap.push (set0 w) }) ⟨rfl, rfl⟩) fun r s₁ hr => ?_
  cases r with
  | error e => exact hr
  | ok fl =>
    cases fl with
    | ret ob =>
      obtain ⟨rfl, rfl⟩ := hr
      have hS : (s.heap.push (set0 w)).get? s.heap.objs.size = some (set0 w) := Heap.get?_push_size _ rfl
      have hT : Shared.TypeIs { s with heap := s.heap.push (set0 w) } (.ref s.heap.objs.size) "set" := ⟨_, hS, rfl⟩
      have k4 := F.called_set.init.lookup
      have k5 := F.called_set.init.bind (.ref s.heap.objs.size)
      repeat (any_goals (first | assumption | wp_step))
      refine codeAny_mono (codeAny_call_builtin (R := wants (fun r s₂ => r = .none ∧ ∃ h' tk L es ep t, s₂ = { s with heap := h', toks := tk } ∧ Tb w h' s.heap.objs.size L es ep t ∧ Upto ks ks.length L ∧ (∀ b o, s.heap.get? b = some o → h'.get? b = some o)) E)
        F.called_set.init.plain F.entry_set_init (check_set_init_1 hT ?_)) fun r₂ s₂ hr₂ => ?_
      · obtain ⟨⟨lc, ldi, lda, lsl⟩, hol, hcl, nl, hdl⟩ := hl
        simp only at hcl hdl
        subst hcl hdl
        have hol' : (s.heap.push (set0 w)).get? l = some { cls := .type "list", dict := ldi, data := .seq items nl, slots := lsl } := Heap.get?_push_of_some _ hol
        have k6 := F.sub_list_set
        have k7 := F.sub_list_frozenset
        have k8 : (Value.type "list" == Value.type "dict") = false := by decide
        have hl1 : (s.heap.push (set0 w)).IsList l items := ⟨_, hol', rfl, nl, rfl⟩
        unfold Builtin.«set.__init__» noKeywords Builtin.Frozenset.updateFrom
        generalize hPI : pyIter = PI
        wp_walk
        subst hPI
        refine wpAny_pyIter_list hl1 (wpAny_bind (wpAny_runValue ?_))
        have lS : l < s.heap.objs.size := Heap.lt_size hol
        have h3 : A.in1.in1.in1.handled = none := by simp [hh]
        have nI : l ≠ (s.heap.push (set0 w)).objs.size := by rw [Heap.size_push]; exact Nat.ne_of_lt (Nat.lt_succ_of_lt lS)
        have nS : s.heap.objs.size ∉ [(s.heap.push (set0 w)).objs.size, l] := by
          rw [Heap.size_push]
          simp only [List.mem_cons, List.not_mem_nil, or_false, not_or]
          exact ⟨Nat.ne_of_lt (Nat.lt_succ_self _), Nat.ne_of_gt lS⟩
        have val : ∀ (i : Nat) (v : Value), items[i]? = some v → ∃ e, ks[i]? = some e ∧ v = .ref e.1 := fun i v hv => by
          have z : items.toList[i]? = some v := by rw [Array.getElem?_toList]; exact hv
          rw [hit, List.getElem?_map] at z
          cases y : ks[i]? with
          | none => rw [y] at z; cases z
          | some e => rw [y] at z; cases z; exact ⟨e, rfl, rfl⟩
        have free : ∀ b, s.heap.objs.size ≤ b → s.heap.get? b = none := fun b hb => by
          cases y : s.heap.get? b with
          | none => rfl
          | some o => exact absurd (Nat.lt_of_lt_of_le (Heap.lt_size y) hb) (Nat.lt_irrefl _)
        have hu4 : A.in1.in1.in1.units + 9 < cLine := by show A.units + 1 + 1 + 1 + 9 < cLine; omega
        refine fill_loop ((Walks.list h3 _ l nI items).toS) s.heap.objs.size nS ks isz few val s.heap els (free _ (Nat.le_refl _)) (fun b hb => free b ?_) hu4 (items.size - 0) 0 _ (by omega) (Nat.zero_le _)
          ⟨⟨_, Heap.get?_push_size _ rfl, rfl, rfl⟩, (hl1.push _)⟩ (fun b o e => Heap.get?_push_of_some _ (Heap.get?_push_of_some _ e)) ?first ?last
        · rw [List.mem_singleton.mp hb, Heap.size_push]; exact Nat.le_succ _
        case first => exact ⟨[], #[], 0, _, tb_fresh (Heap.get?_push_of_some _ hS), upto_zero ks⟩
        case last =>
          intro s' L es ep t hm B u kp
          obtain ⟨h', g2, d2, tk, os2⟩ := s'
          obtain rfl : g2 = s.gens := hm.gens
          obtain rfl : d2 = s.drawn := hm.drawn
          obtain rfl : os2 = s.os := hm.os
          show wpAny _ _ _ _ _ _
          refine wpAny_pure ?_
          show wpAny _ _ (ret Value.none) _ _ _
          rw [isz] at u
          exact wpAny_pure ⟨rfl, h', tk, L, es, ep, t, rfl, B, u, kp⟩
      · cases r₂ with
        | error e => exact hr₂
        | ok fl₂ =>
          cases fl₂ with
          | ret r =>
            obtain ⟨rfl, h', tk, L, es, ep, t, rfl, B, u, kp⟩ := hr₂
            repeat (any_goals (first | assumption | wp_step))
            exact q _ _ _ _ _ _ B u kp
          | _ => exact hr₂.elim
    | _ => exact hr.elim
end
end DLS
end
section
namespace DL
open PySem PySem.Spec L2 PySem.SeqAt
open PyProof.Rows hiding St

/-! ### order of data -/
/-- the two can be asked for their order -/
def cmpD (a b : D) : Bool := okD a && okD b && PySem.W.alike (toPy a) (toPy b) && !isNb a
def dLt (a b : D) : Bool := PySem.W.dataLt (toPy a) (toPy b)
def rOrd (K : PySem.W.Frag) (g : PyData → PyData → Bool) : R2 := fun x y H Q => ∃ d e, Dp K H x d ∧ Dp K H y e ∧ PySem.W.alike d e = true ∧ d ≠ .none ∧ min d.depth e.depth ≤ 64 ∧ Q (.bl (g d e)) H
section
variable {X : Cx}
theorem op_ltO (hv : X.A.units + 130 < cLine) : OpR X (compareOp .Lt) (rOrd X.K fun d e => PySem.W.dataLt d e) := by
  intro pins s σ H x y v u Q I rx ry ⟨d, e, hd, he, al, nn, hz, q⟩
  obtain ⟨as, r1⟩ := Dp.reads I d x v hd rx
  obtain ⟨bs, r2⟩ := Dp.reads I e y u he ry
  exact PySem.W.lt_data r1 r2 al nn (by omega) ⟨.bl _, H, I, rfl, q⟩
theorem op_gtO (hv : X.A.units + 130 < cLine) : OpR X (compareOp .Gt) (rOrd X.K fun d e => PySem.W.dataLt e d) := by
  intro pins s σ H x y v u Q I rx ry ⟨d, e, hd, he, al, nn, hz, q⟩
  obtain ⟨as, r1⟩ := Dp.reads I d x v hd rx
  obtain ⟨bs, r2⟩ := Dp.reads I e y u he ry
  exact PySem.W.gt_data r1 r2 al nn (by omega) ⟨.bl _, H, I, rfl, q⟩
theorem op_leO (hv : X.A.units + 130 < cLine) : OpR X (compareOp .LtE) (rOrd X.K fun d e => !PySem.W.dataLt e d) := by
  intro pins s σ H x y v u Q I rx ry ⟨d, e, hd, he, al, nn, hz, q⟩
  obtain ⟨as, r1⟩ := Dp.reads I d x v hd rx
  obtain ⟨bs, r2⟩ := Dp.reads I e y u he ry
  exact PySem.W.le_data r1 r2 al nn (by omega) ⟨.bl _, H, I, rfl, q⟩
theorem op_geO (hv : X.A.units + 130 < cLine) : OpR X (compareOp .GtE) (rOrd X.K fun d e => !PySem.W.dataLt d e) := by
  intro pins s σ H x y v u Q I rx ry ⟨d, e, hd, he, al, nn, hz, q⟩
  obtain ⟨as, r1⟩ := Dp.reads I d x v hd rx
  obtain ⟨bs, r2⟩ := Dp.reads I e y u he ry
  exact PySem.W.ge_data r1 r2 al nn (by omega) ⟨.bl _, H, I, rfl, q⟩
end
section
variable {m : Md}
theorem opd_ord {g : PyData → PyData → Bool} : OpD m (rOrd m.K g) (fun a b => if cmpD a b = true then some (.bl (g (toPy a) (toPy b))) else none) := fun x y dx dy d H Q rx ry e k => by
  have e : (if cmpD dx dy = true then some (D.bl (g (toPy dx) (toPy dy))) else none) = some d := e
  by_cases c : cmpD dx dy = true
  · rw [if_pos c] at e; cases e
    unfold cmpD at c
    simp only [Bool.and_eq_true, Bool.not_eq_true'] at c
    obtain ⟨⟨⟨c1, c2⟩, c3⟩, c4⟩ := c
    refine ⟨toPy dx, toPy dy, rx.dp (SeqAt.canLay_of_shaped c1), ry.dp (SeqAt.canLay_of_shaped c2), c3, ?_, Nat.le_trans (Nat.min_le_left _ _) (SeqAt.depth_of_shaped c1), k _ H Grow.rfl (.bl _)⟩
    cases dx <;> simp [toPy, isNb] at c4 ⊢
  · rw [if_neg c] at e; cases e
def ltA (a b : D) : Option D := (ltD a b).or (if cmpD a b = true then some (.bl (dLt a b)) else none)
def gtA (a b : D) : Option D := (gtD a b).or (if cmpD a b = true then some (.bl (dLt b a)) else none)
def leA (a b : D) : Option D := (leD a b).or (if cmpD a b = true then some (.bl (!dLt b a)) else none)
def geA (a b : D) : Option D := (geD a b).or (if cmpD a b = true then some (.bl (!dLt a b)) else none)
def rLtA (K : PySem.W.Frag) : R2 := fun x y H Q => (rI0 fun i j => .bl (decide (i < j))) x y H Q ∨ rOrd K (fun d e => PySem.W.dataLt d e) x y H Q
def rGtA (K : PySem.W.Frag) : R2 := fun x y H Q => (rI0 fun i j => .bl (decide (j < i))) x y H Q ∨ rOrd K (fun d e => PySem.W.dataLt e d) x y H Q
def rLeA (K : PySem.W.Frag) : R2 := fun x y H Q => (rI0 fun i j => .bl (decide (i ≤ j))) x y H Q ∨ rOrd K (fun d e => !PySem.W.dataLt e d) x y H Q
def rGeA (K : PySem.W.Frag) : R2 := fun x y H Q => (rI0 fun i j => .bl (decide (j ≤ i))) x y H Q ∨ rOrd K (fun d e => !PySem.W.dataLt d e) x y H Q
theorem opd_ltA : OpD m (rLtA m.K) ltA := opd_lt.or opd_ord
theorem opd_gtA : OpD m (rGtA m.K) gtA := opd_gt.or opd_ord
theorem opd_leA : OpD m (rLeA m.K) leA := opd_le.or opd_ord
theorem opd_geA : OpD m (rGeA m.K) geA := opd_ge.or opd_ord
theorem op_ltA {X : Cx} (hv : X.A.units + 130 < cLine) : OpR X (compareOp .Lt) (rLtA X.K) := op_lt.or (op_ltO hv)
theorem op_gtA {X : Cx} (hv : X.A.units + 130 < cLine) : OpR X (compareOp .Gt) (rGtA X.K) := op_gt.or (op_gtO hv)
theorem op_leA {X : Cx} (hv : X.A.units + 130 < cLine) : OpR X (compareOp .LtE) (rLeA X.K) := op_le.or (op_leO hv)
theorem op_geA {X : Cx} (hv : X.A.units + 130 < cLine) : OpR X (compareOp .GtE) (rGeA X.K) := op_ge.or (op_geO hv)

/-! ### x in y -/
/-- the key that a dict knows it by -/
def sameK : D → D → Bool
  | .int i, .int j => decide (i = j)
  | .str i, .str j => decide (i = j)
  | _, _ => false
def dicGet (x : D) : List D → List D → Option D
  | k :: ks, v :: vs => if sameK k x = true then some v else dicGet x ks vs
  | _, _ => none
def inD (x y : D) : Option D := match y with
  | .lst ds => if (okD x && okD y) = true then some (.bl (ds.any fun z => eqvD z x)) else none
  | .tup ds => if (okD x && okD y) = true then some (.bl (ds.any fun z => eqvD z x)) else none
  | .str z => (match x with
    | .str w => (match w.cps.toList with
      | [c] => some (.bl (decide (c ∈ z.cps.toList)))
      | _ => none)
    | _ => none)
  | .dic ks vs => if (isK x && ks.all isK) = true then some (.bl (dicGet x ks vs).isSome) else none
  | _ => none
def ninD (x y : D) : Option D := (inD x y).map fun d => match d with
  | .bl b => .bl (!b)
  | d => d
def rInA (K : PySem.W.Frag) : R2 := fun x y H Q => rInD K x y H Q ∨
  (∃ d ds, Dp K H x d ∧ Dp K H y (.tuple ds) ∧ SeqAt.shaped d = true ∧ SeqAt.shaped (.tuple ds) = true ∧ Q (.bl (ds.any fun z => PyData.eqv z d)) H) ∨
  (∃ (c : Nat) (z : Str), x = .str ⟨#[c]⟩ ∧ y = .str z ∧ Q (.bl (decide (c ∈ z.cps.toList))) H) ∨
  (∃ a o, y = .ref a ∧ DGet H a x o ∧ Q (.bl o.isSome) H)
def rNinA (K : PySem.W.Frag) : R2 := fun x y H Q => rNotInD K x y H Q ∨
  (∃ d ds, Dp K H x d ∧ Dp K H y (.tuple ds) ∧ SeqAt.shaped d = true ∧ SeqAt.shaped (.tuple ds) = true ∧ Q (.bl (!ds.any fun z => PyData.eqv z d)) H) ∨
  (∃ (c : Nat) (z : Str), x = .str ⟨#[c]⟩ ∧ y = .str z ∧ Q (.bl (!decide (c ∈ z.cps.toList))) H) ∨
  (∃ a o, y = .ref a ∧ DGet H a x o ∧ Q (.bl (!o.isSome)) H)
section
variable {X : Cx}
theorem op_inT (hv : X.A.units + 130 < cLine) : OpR X (compareOp .In) (fun x y H Q => ∃ d ds, Dp X.K H x d ∧ Dp X.K H y (.tuple ds) ∧ SeqAt.shaped d = true ∧ SeqAt.shaped (.tuple ds) = true ∧ Q (.bl (ds.any fun z => PyData.eqv z d)) H) := by
  intro pins s σ H x y v u Q I rx ry ⟨d, ds, hd, he, sd, se, q⟩
  obtain ⟨as, r1⟩ := Dp.reads I d x v hd rx
  obtain ⟨bs, r2⟩ := Dp.reads I (.tuple ds) y u he ry
  exact SeqAt.in_tuple_reads r2 r1 (SeqAt.canLay_of_shaped se) (SeqAt.canLay_of_shaped sd) (room_in_shaped sd (by omega)) ⟨.bl _, H, I, rfl, q⟩
theorem op_ninT (hv : X.A.units + 130 < cLine) : OpR X (compareOp .NotIn) (fun x y H Q => ∃ d ds, Dp X.K H x d ∧ Dp X.K H y (.tuple ds) ∧ SeqAt.shaped d = true ∧ SeqAt.shaped (.tuple ds) = true ∧ Q (.bl (!ds.any fun z => PyData.eqv z d)) H) := by
  intro pins s σ H x y v u Q I rx ry ⟨d, ds, hd, he, sd, se, q⟩
  obtain ⟨as, r1⟩ := Dp.reads I d x v hd rx
  obtain ⟨bs, r2⟩ := Dp.reads I (.tuple ds) y u he ry
  exact SeqAt.notIn_tuple_reads r2 r1 (SeqAt.canLay_of_shaped se) (SeqAt.canLay_of_shaped sd) (room_in_shaped sd (by omega)) ⟨.bl _, H, I, rfl, q⟩
theorem op_inK (hv : X.A.units + 130 < cLine) : OpR X (compareOp .In) (fun x y H Q => ∃ a o, y = .ref a ∧ DGet H a x o ∧ Q (.bl o.isSome) H) := by
  intro pins s σ H x y v u Q I rx ry ⟨a, o, ey, g, q⟩
  subst ey
  obtain rfl : u = Value.ref a := ry
  exact d_in (by omega) I g rx fun s2 I2 => ⟨.bl _, H, I2, rfl, q⟩
theorem op_ninK (hv : X.A.units + 130 < cLine) : OpR X (compareOp .NotIn) (fun x y H Q => ∃ a o, y = .ref a ∧ DGet H a x o ∧ Q (.bl (!o.isSome)) H) := by
  intro pins s σ H x y v u Q I rx ry ⟨a, o, ey, g, q⟩
  subst ey
  obtain rfl : u = Value.ref a := ry
  exact d_notIn (by omega) I g rx fun s2 I2 => ⟨.bl _, H, I2, rfl, q⟩
theorem op_inA (hv : X.A.units + 130 < cLine) : OpR X (compareOp .In) (rInA X.K) := (op_inD (by omega)).or ((op_inT hv).or (op_in_sign.or (op_inK hv)))
theorem op_ninA (hv : X.A.units + 130 < cLine) : OpR X (compareOp .NotIn) (rNinA X.K) := (op_notInD (by omega)).or ((op_ninT hv).or (op_notIn_sign.or (op_ninK hv)))
end
theorem any_py (x : D) : ∀ ds : List D, (toPyL ds).any (fun z => PyData.eqv z (toPy x)) = ds.any fun z => eqvD z x
  | [] => rfl
  | d :: ds => by simp only [toPyL, List.any_cons, any_py x ds, eqvD]
theorem key_rep {H : Hp} {v : V} {x : D} (r : Rep m H v x) (h : isK x = true) : ∃ k : Key, v = kV k ∧ x = keyD k := by
  cases r <;> first | exact ⟨.inl _, rfl, rfl⟩ | exact ⟨.inr _, rfl, rfl⟩ | simp [isK] at h
theorem same_key (k k' : Key) : sameK (keyD k) (keyD k') = decide (k = k') := by
  cases k <;> cases k' <;> simp [sameK, keyD]
/-- what a frozen dict gives for a key -/
theorem dget_rep {H : Hp} (k : Key) : ∀ {kvs : List (Key × V)} {ds : List D}, RepL m H (kvs.map (·.2)) ds → (∀ d, dicGet (keyD k) (kvs.map fun p => keyD p.1) ds = some d → ∃ v, valV kvs k = some v ∧ Rep m H v d) ∧ (dicGet (keyD k) (kvs.map fun p => keyD p.1) ds = none → valV kvs k = none)
  | [], ds, r => ⟨fun d h => by cases r; simp [dicGet] at h, fun _ => rfl⟩
  | (k0, v0) :: kvs, ds, r => by
    cases r with
    | cons a b =>
      obtain ⟨i1, i2⟩ := dget_rep k b
      simp only [List.map_cons, dicGet, same_key]
      by_cases e : k0 = k
      · have ev : valV ((k0, v0) :: kvs) k = some v0 := by unfold valV; simp [e]
        refine ⟨fun d h => ?_, fun h => ?_⟩
        · simp [e] at h; subst h; exact ⟨v0, ev, a⟩
        · simp [e] at h
      · have ev : valV ((k0, v0) :: kvs) k = valV kvs k := by unfold valV; simp [e]
        refine ⟨fun d h => ?_, fun h => ?_⟩
        · simp [e] at h; rw [ev]; exact i1 d h
        · simp [e] at h; rw [ev]; exact i2 h
theorem dget_frz {H : Hp} {a : Addr} {o : Obj} {kvs : List (Key × V)} (e : H a = some (.frz o (.dK kvs))) (k : Key) : DGet H a (kV k) (valV kvs k) := .inl ⟨kvs, k, .inr ⟨o, e⟩, rfl, rfl⟩
theorem opd_in : OpD m (rInA m.K) inD := fun x y dx dy d H Q rx ry e k => by
  unfold inD at e
  split at e
  · rename_i ds
    split at e
    · rename_i c
      rw [Bool.and_eq_true] at c
      cases e
      refine .inl ⟨toPy dx, toPyL ds, rx.dp (SeqAt.canLay_of_shaped c.1), ry.dp (SeqAt.canLay_of_shaped c.2), c.1, c.2, ?_⟩
      rw [any_py]; exact k _ H Grow.rfl (.bl _)
    · cases e
  · rename_i ds
    split at e
    · rename_i c
      rw [Bool.and_eq_true] at c
      cases e
      refine .inr (.inl ⟨toPy dx, toPyL ds, rx.dp (SeqAt.canLay_of_shaped c.1), ry.dp (SeqAt.canLay_of_shaped c.2), c.1, c.2, ?_⟩)
      rw [any_py]; exact k _ H Grow.rfl (.bl _)
    · cases e
  · cases ry
    cases rx with
    | str w =>
      obtain ⟨⟨l⟩⟩ := w
      cases l with
      | nil => cases e
      | cons c l =>
        cases l with
        | nil =>
          cases e
          exact .inr (.inr (.inl ⟨c, _, rfl, rfl, k _ H Grow.rfl (.bl _)⟩))
        | cons _ _ => cases e
    | _ => cases e
  · split at e
    · rename_i c
      cases e
      rw [Bool.and_eq_true] at c
      obtain ⟨ky, rfl, rfl⟩ := key_rep rx c.1
      cases ry with
      | dicN q n e r1 r2 => exact (notK r1 n c.2).elim
      | dicK q r =>
        rename_i a o kvs
        obtain ⟨i1, i2⟩ := dget_rep ky r
        refine .inr (.inr (.inr ⟨_, _, rfl, dget_frz q ky, ?_⟩))
        cases hg : dicGet (keyD ky) (kvs.map fun p => keyD p.1) _ with
        | none => rw [i2 hg]; rw [hg] at k; exact k _ H Grow.rfl (.bl _)
        | some d =>
          obtain ⟨v, h1, h2⟩ := i1 d hg
          rw [h1]; rw [hg] at k; exact k _ H Grow.rfl (.bl _)
    · cases e
  · cases e
theorem opd_nin : OpD m (rNinA m.K) ninD := fun x y dx dy d H Q rx ry e k => by
  unfold ninD inD at e
  split at e
  · rename_i ds
    split at e
    · rename_i c
      rw [Bool.and_eq_true] at c
      cases e
      refine .inl ⟨toPy dx, toPyL ds, rx.dp (SeqAt.canLay_of_shaped c.1), ry.dp (SeqAt.canLay_of_shaped c.2), c.1, c.2, ?_⟩
      rw [any_py]; exact k _ H Grow.rfl (.bl _)
    · cases e
  · rename_i ds
    split at e
    · rename_i c
      rw [Bool.and_eq_true] at c
      cases e
      refine .inr (.inl ⟨toPy dx, toPyL ds, rx.dp (SeqAt.canLay_of_shaped c.1), ry.dp (SeqAt.canLay_of_shaped c.2), c.1, c.2, ?_⟩)
      rw [any_py]; exact k _ H Grow.rfl (.bl _)
    · cases e
  · cases ry
    cases rx with
    | str w =>
      obtain ⟨⟨l⟩⟩ := w
      cases l with
      | nil => cases e
      | cons c l =>
        cases l with
        | nil =>
          cases e
          exact .inr (.inr (.inl ⟨c, _, rfl, rfl, k _ H Grow.rfl (.bl _)⟩))
        | cons _ _ => cases e
    | _ => cases e
  · split at e
    · rename_i c
      cases e
      rw [Bool.and_eq_true] at c
      obtain ⟨ky, rfl, rfl⟩ := key_rep rx c.1
      cases ry with
      | dicN q n e r1 r2 => exact (notK r1 n c.2).elim
      | dicK q r =>
        rename_i a o kvs
        obtain ⟨i1, i2⟩ := dget_rep ky r
        refine .inr (.inr (.inr ⟨_, _, rfl, dget_frz q ky, ?_⟩))
        cases hg : dicGet (keyD ky) (kvs.map fun p => keyD p.1) _ with
        | none => rw [i2 hg]; rw [hg] at k; exact k _ H Grow.rfl (.bl _)
        | some d =>
          obtain ⟨v, h1, h2⟩ := i1 d hg
          rw [h1]; rw [hg] at k; exact k _ H Grow.rfl (.bl _)
    · cases e
  · cases e
end
/-! ### a < b < c -/
section
variable {X : Cx} {G : Gh} {W : WX} {a b c : Expr} {pos : Pos}
def chainM (g g' : D → D → Option D) (fa fb fc : M D) : M D := bindM fa fun x => bindM fb fun y => bindM (liftM (g x y)) fun z => match z with
  | .bl true => bindM fc fun w => liftM (g' y w)
  | .bl false => pureM (.bl false)
  | _ => stuckM
theorem chain_run {r r' : R2} {g g' : D → D → Option D} {fa fb fc : M D} {ta tb tc : TE} (hr : OpD G.m r g) (hr' : OpD G.m r' g') (ia : ∀ σ H Q, dT G W fa σ H Q → ta σ H Q) (ib : ∀ σ H Q, dT G W fb σ H Q → tb σ H Q) (ic : ∀ σ H Q, dT G W fc σ H Q → tc σ H Q) {σ : L2.St} {H : Hp} {Q : VK}
    (h : dT G W (chainM g g' fa fb fc) σ H Q) : tChain r r' ta tb tc σ H Q := by
  obtain ⟨ρ, k, q⟩ := h
  refine ia _ _ _ ⟨ρ, k, q.bind.mono fun x ρ1 H1 _ s1 k1 q1 v rv => ?_⟩
  refine ib _ _ _ ⟨ρ1, k1, q1.bind.mono fun y ρ2 H2 _ s2 k2 q2 w rw' => ?_⟩
  have q2 := q2.bind
  obtain ⟨d, e, q3⟩ := q2.lift k2
  refine hr v w x y d H2 _ (rv.st s2) rw' e fun u H3 g3 r3 => ?_
  have q4 := q3 H3 g3.stable (k2.grow g3)
  have k3 := k2.grow g3
  cases r3 with
  | bl b0 =>
    refine ⟨b0, rfl, ?_⟩
    cases b0 with
    | false => rw [if_neg (by decide)]; exact q4 H3 Stable.rfl k3 _ (.bl false)
    | true =>
      rw [if_pos rfl]
      refine ic _ _ _ ⟨ρ2, k3, (postG.bind q4).mono fun z ρ4 H4 _ s4 k4 q5 w' r' => ?_⟩
      obtain ⟨d', e', q6⟩ := q5.lift k4
      exact hr' w w' y z d' H4 Q ((rw'.st g3.stable).st s4) r' e' fun u' H5 g5 r5 => q6 H5 g5.stable (k4.grow g5) u' r5
  | _ => exact q4.elim
theorem de_chain {op op' : CmpOp} {r r' : R2} {g g' : D → D → Option D} {fa fb fc : M D} (ho : OpR X (compareOp op) r) (hr : OpD G.m r g) (ho' : OpR X (compareOp op') r') (hr' : OpD G.m r' g') (ha : DE X G W a fa) (hb : DE X G W b fb) (hc : DE X G W c fc) (hm : lastMarks [op, op'] [b, c] = false := by with_unfolding_all rfl) : DE X G W (.Compare a [op, op'] [b, c] pos) (chainM g g' fa fb fc) :=
  pe_imp (pe_chain ho ho' ha hb hc hm) fun σ H Q h => chain_run hr hr' (fun _ _ _ z => z) (fun _ _ _ z => z) (fun _ _ _ z => z) h
theorem dt_chain {op op' : CmpOp} {r r' : R2} {g g' : D → D → Option D} {fa fb fc : M D} (ho : OpR X (compareOp op) r) (hr : OpD G.m r g) (ho' : OpR X (compareOp op') r') (hr' : OpD G.m r' g') (ha : DE X G W a fa) (hb : DE X G W b fb) (hc : DE X G W c fc) (hm : lastMarks [op, op'] [b, c] = false := by with_unfolding_all rfl) : DT X G W (.Compare a [op, op'] [b, c] pos) (boolM (chainM g g' fa fb fc)) :=
  pt_imp (pt_chain ho ho' ha hb hc hm) fun σ H Q ⟨ρ, k, q⟩ => chain_run hr hr' (fun _ _ _ z => z) (fun _ _ _ z => z) (fun _ _ _ z => z) ⟨ρ, k, q.bind.mono fun d ρ1 H1 _ s1 k1 q1 v r => by
    cases r with
    | bl b => exact ⟨b, rfl, q1 H1 Stable.rfl k1⟩
    | _ => exact q1.elim⟩
end
end DL
end
section
namespace DL
open PySem PySem.Spec L2 PySem.SeqAt
open PyProof.Rows hiding St

/-! ### fields -/
def fldD (f : Str) : List Str → List D → Option D
  | n :: ns, d :: ds => if n = f then some d else fldD f ns ds
  | _, _ => none
theorem fld_rep {m : Md} {H : Hp} {f : Str} : ∀ {ns : List Str} {vs : List V} {ds : List D} {d : D}, ns.length = vs.length → RepL m H vs ds → fldD f ns ds = some d → ∃ v, (ns.zip vs).lookup f = some v ∧ Rep m H v d
  | [], vs, ds, d, hl, r, e => by simp [fldD] at e
  | n :: ns, [], ds, d, hl, r, e => by simp at hl
  | n :: ns, v :: vs, ds, d, hl, r, e => by
    cases r with
    | cons a b =>
      unfold fldD at e
      rw [List.zip_cons_cons, List.lookup_cons]
      by_cases c : n = f
      · rw [if_pos c] at e; cases e
        subst c
        exact ⟨v, by simp, a⟩
      · rw [if_neg c] at e
        obtain ⟨w, h1, h2⟩ := fld_rep (by simpa using hl) b e
        refine ⟨w, ?_, h2⟩
        have : (f == n) = false := by simpa using fun z => c z.symm
        rw [this]; exact h1
theorem nofld {f : Str} : ∀ {ns : List Str} {vs : List V}, f ∉ ns → (ns.zip vs).lookup f = none
  | [], vs, h => by simp
  | n :: ns, [], h => by simp
  | n :: ns, v :: vs, h => by
    rw [List.zip_cons_cons, List.lookup_cons]
    have : (f == n) = false := by simpa using fun z => h (by rw [z]; exact List.mem_cons_self)
    rw [this]
    exact nofld fun z => h (List.mem_cons_of_mem _ z)
/-- the class c of the text and its fields -/
structure ClsD (K : PySem.W.Frag) (mg : Str → Option Value) (c : Str) (fs : List Str) : Prop where
  ex : ∃ C, mg c = some (.ref C) ∧ Cls K C ∧ ∀ f ∈ fs, NoAttr K C f
def fldM (c f : Str) (fo : M D) : M D := bindM fo fun o => match o with
  | .ins c' ns ds => if c' = c then liftM (fldD f ns ds) else stuckM
  | _ => stuckM
section
variable {X : Cx} {G : Gh} {W : WX} {o e : Expr} {es : List Expr} {pos apos : Pos} {c f : Str} {fs : List Str}
theorem de_fld {fo : M D} (hm0 : G.m = ⟨X.K, X.mg, X.w⟩) (T : ClsD X.K X.mg c fs) (hf : f ∈ fs) (ho : DE X G W o fo) (hb : attributeBase o f X.env (eval o X.env) = eval o X.env := by rfl) : DE X G W (.Attribute o f pos) (fldM c f fo) := by
  obtain ⟨C, h1, h2, h3⟩ := T.ex
  exact pe_imp (pe_fld ho hb) fun σ H Q ⟨ρ, k, q⟩ => ⟨ρ, k, q.bind.mono fun d ρ1 H1 _ s1 k1 q1 v r => by
    cases r with
    | ins hm hH hl hr =>
      rename_i a C' dx c' ns vs ds eqf
      by_cases e : c' = c
      · subst e
        simp only [if_true] at q1
        obtain ⟨x, e2, q2⟩ := q1.lift k1
        rw [hm0] at hm
        have hm : X.mg c' = some (.ref C') := hm
        rw [h1] at hm; cases hm
        obtain ⟨w, g1, g2⟩ := fld_rep hl hr e2
        exact ⟨a, _, dx, _, w, rfl, hH, h2, h3 f hf, g1, q2 H1 Stable.rfl k1 w g2⟩
      · simp only [e, if_false] at q1; exact q1.elim
    | _ => exact q1.elim⟩
/-! ### methods -/
def tMe (C : Addr) (nm : Str) (sp : Sp) (E : L2.St → XK) (to : TE) (ta : TA) : TE := fun σ H Q => to σ H fun x H1 => ∃ a dx fl, x = .ref a ∧ H1 a = some (.ins C dx fl) ∧ fl.lookup nm = none ∧ ta σ H1 fun vs H2 => sp (x :: vs) H2 Q (E σ)
variable {CX : CXT} {kk : Nat} {fA C : Addr} {fd : FuncData} {ps : List Str} {sp : Sp} {E : L2.St → XK} {nm : Str} {to : TE} {ta : TA} {pl : Sem Bool}
theorem pe_me (ho : PE X o to) (cl : Cls X.K C) (me : Meth X.K C nm fA) (F : FnOk X.prog X.w X.K X.mg X.base CX kk fA fd ps sp) (rm : Room kk X.A) (bd : Binds X.K fd ps []) (px : ∀ σ, PassesAt CX X σ (E σ)) (hA : PA X (e :: es) ta)
    (h1 : starEach (e :: es) X.env = (false, eval e X.env) :: starEach es X.env := by rfl) (h2 : (backTo pos (starEach es X.env)).any (·.1) = false := by rfl)
    (h3 : eval (.Call (.Attribute o nm apos) (e :: es) [] pos) X.env = (do
      let w ← eval o X.env
      standAt apos.atName
      let (g, fst) ← holding [w] (getMethod w nm pl)
      callWith pos g fst (backTo pos (starEach (e :: es) X.env)) (backToKw pos (keywordEach [] X.env))) := by rfl) :
    PE X (.Call (.Attribute o nm apos) (e :: es) [] pos) (tMe C nm sp E to ta) := ⟨fun pn st σ H Q J q0 => by
  refine PySem.W.methodCall_KW (pl := pl) (thn (ho.run pn st σ H _ J q0) fun w st1 r1 => ?_) h3
  obtain ⟨y, H1, J1, ry, a, dx, fl, ey, ea, ln, q1⟩ := r1
  subst ey
  obtain rfl : w = Value.ref a := ry
  refine getmeth_ok J1 ea cl me ln (PySem.W.callWith_K (first := [.ref a]) (h₀ := X.base) J.ok.mod.kin me.kp (thn (hA.run pos pn st1 σ H1 _ J1 q1) fun us st2 r2 => ?_) h1 h2)
  obtain ⟨vs, H2, J2, rv, q2⟩ := r2
  exact ⟨J2.kIn, run_fnS (us := .ref a :: us) (vs := .ref a :: vs) F rm bd (px σ) J2 (.cons rfl rv) q2⟩⟩
end
/-- a method of the text -/
structure DMe (P : Program) (w : World) (K : PySem.W.Frag) (mg : Str → Option Value) (base : Heap) (c nm : Str) (k : Nat) (md : List Bool) (f : Fn) : Prop where
  ex : ∃ C fA fd ps, mg c = some (.ref C) ∧ Cls K C ∧ Meth K C nm fA ∧ Binds K fd ps [] ∧ FnOk P w K mg base (L2.CX P w) k fA fd ps (spD ⟨K, mg, w⟩ none md .f f)
theorem DMe.mono {P : Program} {w : World} {K : PySem.W.Frag} {mg : Str → Option Value} {base : Heap} {c nm : Str} {j k : Nat} {md : List Bool} {f : Fn} (h : DMe P w K mg base c nm j md f) (hj : j ≤ k) : DMe P w K mg base c nm k md f := by
  obtain ⟨C, fA, fd, ps, h1, h2, h3, h4, h5⟩ := h.ex
  exact ⟨C, fA, fd, ps, h1, h2, h3, h4, h5.mono hj⟩
def methD (c nm : Str) (md : List Bool) (f : Fn) (fo : M D) (fa : M (List Ag)) : M D := bindM fo fun x => match x with
  | .ins c' ns ds => if c' = c ∧ nm ∉ ns then callM f (mdM md (bindM fa fun ags => pureM (.d (.ins c' ns ds) :: ags))) else stuckM
  | _ => stuckM
section
variable {X : Cx} {G : Gh} {W : WX} {o e : Expr} {es : List Expr} {pos apos : Pos} {c nm : Str} {j k : Nat} {md : List Bool} {f : Fn} {fo : M D} {fa : M (List Ag)} {pl : Sem Bool}
theorem meth_run {C fA : Addr} {fd : FuncData} {ps : List Str} {ta : TA} (hex : G.ex = none) (hm0 : G.m = ⟨X.K, X.mg, X.w⟩) (h1 : X.mg c = some (.ref C)) (ia : ∀ σ H Q, gT G W fa σ H Q → ta σ H Q) {σ : L2.St} {H : Hp} {Q : VK} (h : dT G W (methD c nm md f fo fa) σ H Q) :
    tMe C nm (spD ⟨X.K, X.mg, X.w⟩ none md .f f) (WE W) (dT G W fo) ta σ H Q := by
  obtain ⟨ρ, k0, q⟩ := h
  refine ⟨ρ, k0, q.bind.mono fun d ρ1 H1 _ s1 k1 q1 v r => ?_⟩
  cases r with
  | ins hm hH hl hr =>
    rename_i a C' dx c' ns vs ds eqf
    by_cases e : c' = c ∧ nm ∉ ns
    · obtain ⟨e, e2⟩ := e
      subst e
      simp only [e2, not_false_eq_true, and_self, if_true] at q1
      have hm' := hm
      rw [hm0] at hm
      have hm : X.mg c' = some (.ref C') := hm
      rw [h1] at hm; cases hm
      refine ⟨a, dx, _, rfl, hH, nofld e2, ia _ _ _ ⟨ρ1, k1, ?_⟩⟩
      refine (mdM_run q1).bind.mono fun ags ρ2 H2 _ s2 k2 q2 ws rs fs => ?_
      have q3 := q2 H2 Stable.rfl k2
      have rr : Rep G.m H2 (.ref a) (.ins c' ns ds) := (Rep.ins hm' hH hl hr).st s2
      have z := call_run (md := md) (rm := .f) (Q := Q) (vs := .ref a :: ws) hex k2 (.d rr rs) (fs.cons fun c z => by cases z) (fun ρ' e => by rw [e]; exact q3.1) q3.2 fun d' ρ' v' H' st k' _ rf q => q v' rf
      rw [hm0] at z
      exact z
    · simp only [e, if_false] at q1; exact q1.elim
  | _ => exact q1.elim
theorem de_meth (hex : G.ex = none) (hm0 : G.m = ⟨X.K, X.mg, X.w⟩) (tk : Takes X W) (T : DMe X.prog X.w X.K X.mg X.base c nm j md f) (hr : Room k X.A) (hk : j ≤ k) (ho : DE X G W o fo) (ha : DG X G W (e :: es) fa)
    (h1 : starEach (e :: es) X.env = (false, eval e X.env) :: starEach es X.env := by rfl) (h2 : (backTo pos (starEach es X.env)).any (·.1) = false := by rfl)
    (h3 : eval (.Call (.Attribute o nm apos) (e :: es) [] pos) X.env = (do
      let w ← eval o X.env
      standAt apos.atName
      let (g, fst) ← holding [w] (getMethod w nm pl)
      callWith pos g fst (backTo pos (starEach (e :: es) X.env)) (backToKw pos (keywordEach [] X.env))) := by rfl) : DE X G W (.Call (.Attribute o nm apos) (e :: es) [] pos) (methD c nm md f fo fa) := by
  obtain ⟨C, fA, fd, ps, g1, g2, g3, g4, g5⟩ := T.ex
  exact pe_imp (pe_me ho g2 g3 g5 (hr.mono hk) g4 (fun σ => passAt tk σ) ha h1 h2 h3) fun σ H Q h => meth_run hex hm0 g1 (fun _ _ _ z => z) h (fd := fd) (ps := ps) (fA := fA)
end
end DL
end
section
namespace DL
open PySem PySem.Spec L2 PySem.SeqAt
open PyProof.Rows hiding St

/-! ### sorted -/
section
variable {α : Type} {le : α → α → Bool}
def insO (le : α → α → Bool) (x : α) : List α → List α
  | [] => [x]
  | y :: l => if le x y = true then x :: y :: l else y :: insO le x l
def isort (le : α → α → Bool) : List α → List α
  | [] => []
  | x :: l => insO le x (isort le l)
theorem insO_mem {x z : α} : ∀ {l : List α}, z ∈ insO le x l → z = x ∨ z ∈ l
  | [], h => by simp [insO] at h; exact .inl h
  | y :: l, h => by
    unfold insO at h
    by_cases c : le x y = true
    · rw [if_pos c] at h; simpa using h
    · rw [if_neg c] at h
      rcases List.mem_cons.mp h with h | h
      · exact .inr (by rw [h]; exact List.mem_cons_self)
      · rcases insO_mem h with h | h
        · exact .inl h
        · exact .inr (List.mem_cons_of_mem _ h)
theorem insO_pw (T : PySem.W.TotalLe le) {x : α} : ∀ {l : List α}, l.Pairwise (fun a b => le a b = true) → (insO le x l).Pairwise (fun a b => le a b = true)
  | [], _ => List.pairwise_singleton _ _
  | y :: l, h => by
    obtain ⟨h1, h2⟩ := List.pairwise_cons.mp h
    unfold insO
    by_cases c : le x y = true
    · rw [if_pos c]
      refine List.pairwise_cons.mpr ⟨fun z hz => ?_, h⟩
      rcases List.mem_cons.mp hz with rfl | hz
      · exact c
      · exact T.trans _ _ _ c (h1 z hz)
    · rw [if_neg c]
      refine List.pairwise_cons.mpr ⟨fun z hz => ?_, insO_pw T h2⟩
      rcases insO_mem hz with rfl | hz
      · exact (T.total z y).resolve_left c
      · exact h1 z hz
theorem isort_pw (T : PySem.W.TotalLe le) : ∀ l : List α, (isort le l).Pairwise (fun a b => le a b = true)
  | [] => List.Pairwise.nil
  | x :: l => insO_pw T (isort_pw T l)
theorem insO_filter (T : PySem.W.TotalLe le) {x c : α} : ∀ l : List α, l.Pairwise (fun a b => le a b = true) → (insO le x l).filter (PySem.W.sameRank le c) = (x :: l).filter (PySem.W.sameRank le c)
  | [], _ => rfl
  | y :: l, h => by
    obtain ⟨h1, h2⟩ := List.pairwise_cons.mp h
    unfold insO
    by_cases q : le x y = true
    · rw [if_pos q]
    · rw [if_neg q]
      have ih := insO_filter T (x := x) (c := c) l h2
      rw [List.filter_cons, ih]
      simp only [List.filter_cons]
      cases ey : PySem.W.sameRank le c y <;> cases ex : PySem.W.sameRank le c x <;> simp
      unfold PySem.W.sameRank at ey ex
      rw [Bool.and_eq_true] at ey ex
      exact absurd (T.trans _ _ _ ex.2 ey.1) q
theorem isort_filter (T : PySem.W.TotalLe le) (c : α) : ∀ l : List α, (isort le l).filter (PySem.W.sameRank le c) = l.filter (PySem.W.sameRank le c)
  | [] => rfl
  | x :: l => by
    show (insO le x (isort le l)).filter _ = _
    rw [insO_filter T _ (isort_pw T l), List.filter_cons, List.filter_cons, isort_filter T c l]
theorem isort_eq (T : PySem.W.TotalLe le) (l : List α) : isort le l = l.mergeSort le := PySem.W.sort_unique T (isort_pw T l) fun c => isort_filter T c l
end
/-- a <= b, for sorting -/
def dLe (a b : D) : Bool := !dLt b a
def keyT (d : D) : List (Int ⊕ List Nat) := PySem.W.keyToks (toPy d)
theorem dLe_eq : dLe = PySem.W.sortLe (PyProof.Rows.listOrd PyProof.Rows.itemOrd) false keyT := rfl
theorem dLe_total : PySem.W.TotalLe dLe := by rw [dLe_eq]; exact PySem.W.sortLe_total _ _ _
def srtD (ds : List D) : List D := isort dLe ds
def isTup : D → Bool
  | .tup (_ :: _) => true
  | _ => false
def notTup : D → Bool
  | .tup _ => false
  | .non => false
  | _ => true
def canSort (ds : List D) : Bool := ds.all okD && ((ds.all fun d => ds.all fun e => PySem.W.alike (toPy d) (toPy e)) && (ds.all isTup || ds.all notTup))
def rSortD (K : PySem.W.Frag) (m : Md) : List V → Hp → VK → Prop := fun vs H Q => ∃ (a : Addr) (xs : List V) (ds : List D), vs = [V.ref a] ∧ SqL K H a xs ∧ RepL m H xs ds ∧ canSort ds = true ∧ ∀ ys p, RepL m H ys (srtD ds) → ys.length = xs.length → H p = none → Q (.ref p) (upd H p (.lst ys))
theorem repL_mem {m : Md} {H : Hp} : ∀ {vs : List V} {ds : List D}, RepL m H vs ds → ∀ p ∈ vs.zip ds, Rep m H p.1 p.2
  | [], ds, r, p, h => by simp at h
  | v :: vs, [], r, p, h => by simp at h
  | v :: vs, d :: ds, r, p, h => by
    cases r with
    | cons a b =>
      rw [List.zip_cons_cons] at h
      rcases List.mem_cons.mp h with rfl | h
      · exact a
      · exact repL_mem b p h
theorem repL_of {m : Md} {H : Hp} : ∀ {bs : List (V × D)}, (∀ p ∈ bs, Rep m H p.1 p.2) → RepL m H (bs.map (·.1)) (bs.map (·.2))
  | [], _ => .nil
  | b :: bs, h => .cons (h b List.mem_cons_self) (repL_of fun p hp => h p (List.mem_cons_of_mem _ hp))
theorem cr_sortD {X : Cx} {m : Md} (hm : m.K = X.K) (hv : X.A.units + 130 < cLine) : CallR X (.builtin "sorted") (rSortD X.K m) := by
  intro pins s σ H vs us Q I r h
  obtain ⟨a, xs, ds, rfl, hs, rx, hc, q⟩ := h
  obtain ⟨its, rv, hl, hz⟩ := I.list hs
  obtain ⟨u, rfl, ru⟩ := vals1 r
  obtain rfl : u = Value.ref a := ru
  unfold canSort at hc
  rw [Bool.and_eq_true, Bool.and_eq_true, Bool.or_eq_true] at hc
  obtain ⟨c1, c2, c3⟩ := hc
  have c1 := List.all_eq_true.mp c1
  have ok1 : ∀ d ∈ ds, okD d = true := c1
  have lenV : xs.length = ds.length := rx.len
  have lenU : xs.length = its.length := rv.length
  -- the values, with what they stand for
  have each : PySem.W.EachIs (fun (u : Value) (b : V × D) => RelV b.1 u ∧ b ∈ xs.zip ds) its (xs.zip ds) := by
    have go : ∀ {xs : List V} {its : List Value} {ds : List D}, Vals xs its → xs.length = ds.length → PySem.W.EachIs (fun (u : Value) (b : V × D) => RelV b.1 u) its (xs.zip ds) := by
      intro xs its ds r
      induction r generalizing ds with
      | nil => intro h; cases ds with
        | nil => exact .nil
        | cons => simp at h
      | cons h1 _ ih => intro h; cases ds with
        | nil => simp at h
        | cons d ds => exact .cons h1 (ih (by simpa using h))
    have e := go rv lenV
    refine PySem.W.EachIs.of_zip e.length fun p hp => ⟨e.zip p hp, ?_⟩
    exact (List.of_mem_zip hp).2
  have reads : ∀ (h' : Heap), (∀ b o, s.heap.get? b = some o → h'.get? b = some o) → ∀ (u : Value) (b : V × D), RelV b.1 u ∧ b ∈ xs.zip ds → ∃ as, Reads h' u (toPy b.2) as := fun h' kp u b ⟨h1, h2⟩ => by
    have rp := repL_mem rx b h2
    have hd : b.2 ∈ ds := (List.of_mem_zip h2).2
    have dp := rp.dp (SeqAt.canLay_of_shaped (ok1 _ hd))
    rw [hm] at dp
    obtain ⟨as, r1⟩ := Dp.reads I _ _ u dp h1
    exact ⟨as, Reads.keeps kp r1⟩
  have al : PySem.W.AllAlike (ds.map toPy) := fun d hd d' hd' => by
    obtain ⟨x, hx, rfl⟩ := List.mem_map.mp hd
    obtain ⟨y, hy, rfl⟩ := List.mem_map.mp hd'
    exact List.all_eq_true.mp (List.all_eq_true.mp c2 x hx) y hy
  have sb : PySem.W.Sortable (ds.map toPy) := by
    rcases c3 with c3 | c3
    · refine .inl fun d hd => ?_
      obtain ⟨x, hx, rfl⟩ := List.mem_map.mp hd
      have := List.all_eq_true.mp c3 x hx
      cases x with
      | tup l =>
        cases l with
        | nil => simp [isTup] at this
        | cons y l => exact ⟨_, _, rfl⟩
      | _ => simp [isTup] at this
    · refine .inr fun d hd => ?_
      obtain ⟨x, hx, rfl⟩ := List.mem_map.mp hd
      have := List.all_eq_true.mp c3 x hx
      cases x <;> simp [notTup, toPy] at this ⊢
  have dep : ∀ d ∈ ds.map toPy, X.A.in1.in1.units + d.depth < cLine := fun d hd => by
    obtain ⟨x, hx, rfl⟩ := List.mem_map.mp hd
    have := SeqAt.depth_of_shaped (ok1 x hx)
    show X.A.units + 1 + 1 + _ < _
    omega
  have hits : its.length ≤ sizeLine := by rw [← lenU]; exact hz
  have eds : (xs.zip ds).map (fun b => toPy b.2) = ds.map toPy := by
    rw [show (fun b : V × D => toPy b.2) = toPy ∘ Prod.snd from rfl, ← List.map_map, List.map_snd_zip (by omega)]
  have eachP : ∀ h' : Heap, (∀ b o, s.heap.get? b = some o → h'.get? b = some o) → PySem.W.EachIs (fun v d => ∃ as, Reads h' v d as) its (ds.map toPy) := fun h' kp => by
    rw [← eds]
    have go : ∀ {us : List Value} {bs : List (V × D)}, PySem.W.EachIs (fun (u : Value) (b : V × D) => RelV b.1 u ∧ b ∈ xs.zip ds) us bs → PySem.W.EachIs (fun v d => ∃ as, Reads h' v d as) us (bs.map fun b => toPy b.2) := by
      intro us bs e
      induction e with
      | nil => exact .nil
      | cons h1 _ ih => exact .cons (reads h' kp _ _ h1) ih
    exact go each
  have kp1 : ∀ b o, s.heap.get? b = some o → (PySem.W.sortingHeap (PySem.W.copyHeap s.heap its) (s.heap.objs.size + 1) its).get? b = some o := fun b o e => PySem.W.sorting_copy_old e
  have S := PySem.W.SortsAt.data (prog := X.prog) (w := X.w) (A := X.A.in1.in1) (s := { s with heap := PySem.W.sortingHeap (PySem.W.copyHeap s.heap its) (s.heap.objs.size + 1) its }) (eachP _ kp1) al sb dep
  refine PySem.W.sorted_vals hl.isList S hits ?_
  have keys : PySem.W.EachIs (fun (v : Value) (b : V × D) => (PySem.W.dataKind (PySem.W.sortingHeap (PySem.W.copyHeap s.heap its) (s.heap.objs.size + 1) its) (ds.map toPy)).keyOf v = some (keyT b.2)) its (xs.zip ds) := by
    refine PySem.W.EachIs.mono (fun u b hb => ?_) each
    obtain ⟨as, r1⟩ := reads _ kp1 u b hb
    exact PySem.W.dataKind_some al (List.mem_map.mpr ⟨b.2, (List.of_mem_zip hb.2).2, rfl⟩) r1
  have out := PySem.W.sortVals_each (κ := PySem.W.dataKind (PySem.W.sortingHeap (PySem.W.copyHeap s.heap its) (s.heap.objs.size + 1) its) (ds.map toPy)) (rev := false) (fun b : V × D => keyT b.2) each keys
  generalize PySem.W.sortVals _ false its its = res at out
  generalize hbs : (xs.zip ds).mergeSort _ = bs at out
  have pm : bs.Perm (xs.zip ds) := by rw [← hbs]; exact List.mergeSort_perm _ _
  have e2 : bs.map (·.2) = srtD ds := by
    rw [← hbs]
    unfold srtD
    rw [isort_eq dLe_total, dLe_eq]
    refine (PySem.W.sort_maps (s := PySem.W.sortLe (PyProof.Rows.listOrd PyProof.Rows.itemOrd) false keyT) (Prod.snd : V × D → D) (fun _ _ _ _ => rfl)).trans ?_
    rw [List.map_snd_zip (by omega)]
  have rr : RepL m H (bs.map (·.1)) (srtD ds) := by
    rw [← e2]
    exact repL_of fun p hp => repL_mem rx p (pm.mem_iff.mp hp)
  have hlb : (bs.map (·.1)).length = xs.length := by rw [List.length_map, pm.length_eq, List.length_zip, lenV, Nat.min_self]
  have vals : Vals (bs.map (·.1)) res := by
    have go : ∀ {us : List Value} {bs : List (V × D)}, PySem.W.EachIs (fun (u : Value) (b : V × D) => RelV b.1 u ∧ b ∈ xs.zip ds) us bs → Vals (bs.map (·.1)) us := by
      intro us bs e
      induction e with
      | nil => exact .nil
      | cons h1 _ ih => exact .cons h1.1 ih
    exact go out
  have hd : s.heap.objs.size ≤ s.heap.objs.size + 1 := Nat.le_succ _
  obtain ⟨n, hn⟩ := sortedAll_at s.heap its res.toArray
  exact ⟨.ref (s.heap.objs.size + 1), upd H (s.heap.objs.size + 1) (.lst (bs.map (·.1))), I.laid (t' := s.toks) (fun b o e => sortedAll_old e) hd ⟨by rw [hlb]; exact hz, res, n, vals, hn⟩, rfl, q _ _ rr hlb (I.hok.fresh hd)⟩
section
variable {m : Md}
def sortL : List D → Option (List D)
  | [.lst ds] => if canSort ds = true then some (srtD ds) else none
  | _ => none
theorem co_sortL : CallO m (rSortD m.K m) sortL := fun vs ds d H Q r e k => by
  unfold sortL at e
  split at e
  · rename_i xs
    split at e
    · rename_i c
      cases e
      obtain ⟨v, rfl, rv⟩ := one_of r
      cases rv with
      | lst q rl => exact ⟨_, _, xs, rfl, q.sq, rl, c, fun ys p ry _ hp => k p ys _ (Grow.new hp) hp upd_same (ry.st (Grow.new hp).stable)⟩
    · cases e
  · cases e
end
end DL
end
section
namespace DL
open PySem PySem.Spec L2 PySem.SeqAt
open PyProof.Rows hiding St

theorem callR_or {X : Cx} {f : Value} {r r' : List V → Hp → VK → Prop} (h : CallR X f r) (h' : CallR X f r') : CallR X f (fun xs H Q => r xs H Q ∨ r' xs H Q) := fun pins s σ H xs us Q I rv q => by
  rcases q with q | q
  · exact h pins s σ H xs us Q I rv q
  · exact h' pins s σ H xs us Q I rv q
section
variable {m : Md}
theorem CallD.or {r r' : List V → Hp → VK → Prop} {g g' : List D → Option D} (h : CallD m r g) (h' : CallD m r' g') : CallD m (fun xs H Q => r xs H Q ∨ r' xs H Q) (fun ds => (g ds).or (g' ds)) := fun vs ds d H Q rs e k => by
  have e : (g ds).or (g' ds) = some d := e
  cases q : g ds with
  | some z => rw [q] at e; cases e; exact .inl (h vs ds _ H Q rs q k)
  | none => rw [q] at e; exact .inr (h' vs ds d H Q rs e k)
theorem CallO.or {r r' : List V → Hp → VK → Prop} {g g' : List D → Option (List D)} (h : CallO m r g) (h' : CallO m r' g') : CallO m (fun xs H Q => r xs H Q ∨ r' xs H Q) (fun ds => (g ds).or (g' ds)) := fun vs ds d H Q rs e k => by
  have e : (g ds).or (g' ds) = some d := e
  cases q : g ds with
  | some z => rw [q] at e; cases e; exact .inl (h vs ds _ H Q rs q k)
  | none => rw [q] at e; exact .inr (h' vs ds d H Q rs e k)
end
def strsOf : List D → Option (List Str)
  | [] => some []
  | .str i :: r => (strsOf r).map (i :: ·)
  | _ => none
theorem strs_eq : ∀ {ds : List D} {ns : List Str}, strsOf ds = some ns → ds = ns.map D.str
  | [], ns, e => by cases e; rfl
  | d :: ds, ns, e => by
    cases d with
    | str i =>
      unfold strsOf at e
      cases q : strsOf ds with
      | none => rw [q] at e; cases e
      | some l => rw [q] at e; cases e; rw [strs_eq q]; rfl
    | _ => simp [strsOf] at e
def lenK : List D → Option D
  | [.dic ks _] => if ks.all isK = true then some (.int ks.length) else none
  | _ => none
theorem call_lenF {X : Cx} : CallR X (.builtin "len") (fun xs H Q => ∃ (a : Addr) (o : Obj) (kvs : List (Key × V)), xs = [V.ref a] ∧ H a = some (.frz o (.dK kvs)) ∧ Q (.int kvs.length) H) := by
  intro pins s σ H xs us Q I r ⟨a, o, kvs, e, ha, q⟩
  subst e
  obtain ⟨u, rfl, ru⟩ := vals1 r
  cases ru
  exact d_len I (.inr ⟨o, ha⟩) fun t s' I' => ⟨.int kvs.length, H, I', ⟨t, rfl⟩, q⟩
section
variable {m : Md}
theorem cd_lenK : CallD m (fun xs H Q => ∃ (a : Addr) (o : Obj) (kvs : List (Key × V)), xs = [V.ref a] ∧ H a = some (.frz o (.dK kvs)) ∧ Q (.int kvs.length) H) lenK := fun vs ds d H Q r e k => by
  unfold lenK at e
  split at e
  · obtain ⟨v, rfl, rv⟩ := one_of r
    rename_i ks vls
    by_cases c : ks.all isK = true
    rotate_left
    · rw [if_neg c] at e; cases e
    rw [if_pos c] at e
    cases e
    cases rv with
    | dicN q n e r1 r2 => exact (notK r1 n c).elim
    | dicK q rl =>
      refine ⟨_, _, _, rfl, q, ?_⟩
      rw [List.length_map] at k
      exact k _ H Grow.rfl (.int _)
  · cases e
def lenG (ds : List D) : Option D := (lenD ds).or (lenK ds)
def tupC : List D → Option D
  | [.lst xs] => some (.tup xs)
  | [.tup xs] => some (.tup xs)
  | _ => none
theorem cd_tup : CallD m (fun xs H Q => ∃ p ys, xs = [.ref p] ∧ ((SqL m.K H p ys ∧ ∀ l, H l = none → Q (.ref l) (upd H l (.tup ys))) ∨ (SqT m.K H p ys ∧ Q (.ref p) H))) tupC := fun vs ds d H Q r e k => by
  unfold tupC at e
  split at e
  · obtain ⟨v, rfl, rv⟩ := one_of r
    cases e
    cases rv with
    | lst q rl =>
      exact ⟨_, _, rfl, .inl ⟨q.sq, fun l hl => k _ _ (Grow.new hl) (.tup (SqT.of upd_same) (rl.st (Grow.new hl).stable))⟩⟩
  · obtain ⟨v, rfl, rv⟩ := one_of r
    cases e
    cases rv with
    | tup q rl => exact ⟨_, _, rfl, .inr ⟨q, k _ H Grow.rfl (.tup q rl)⟩⟩
  · cases e
/-! ### d[k] -/
def ixK (x i : D) : Option D := match x with
  | .dic ks vs => if (isK i && ks.all isK) = true then dicGet i ks vs else none
  | _ => none
def ixG (x i : D) : Option D := (ixD x i).or (ixK x i)
def rIxG (K : PySem.W.Frag) : R2 := fun x y H Q => rIx K x y H Q ∨ ∃ a v, x = .ref a ∧ DGet H a y (some v) ∧ Q v H
theorem ix_G {X : Cx} (hv : X.A.units + 130 < cLine) : IxR X (rIxG X.K) := ix_seq.or (by
  intro value slice pins s σ H x y v u Q I rx ry ⟨a, w, ex, g, q⟩ hs
  subst ex
  obtain rfl : v = Value.ref a := rx
  exact tail_any (dict_typeIs I g) slot_dict_getitem.lookup (d_getItem (by omega) I g ry fun w' s' I' rw' => ⟨w, H, I', rw', q⟩) hs)
theorem opd_ixG : OpD m (rIxG m.K) ixG := fun x y dx dy d H Q rx ry e k => by
  unfold ixG at e
  cases q : ixD dx dy with
  | some z => rw [q] at e; cases e; exact .inl (opd_ix x y dx dy _ H Q rx ry q k)
  | none =>
    rw [q] at e
    have e : ixK dx dy = some d := e
    unfold ixK at e
    cases rx with
    | dicN q1 n e' r1 r2 =>
      rename_i a o kvs ks ds _
      have e : (if (isK dy && ks.all isK) = true then dicGet dy ks ds else none) = some d := e
      by_cases c : (isK dy && ks.all isK) = true
      · rw [Bool.and_eq_true] at c; exact (notK r1 n c.2).elim
      · rw [if_neg c] at e; cases e
    | dicK q1 r =>
      rename_i a o kvs ds _
      have e : (if (isK dy && (kvs.map fun p => keyD p.1).all isK) = true then dicGet dy (kvs.map fun p => keyD p.1) ds else none) = some d := e
      by_cases c : (isK dy && (kvs.map fun p => keyD p.1).all isK) = true
      · rw [if_pos c] at e
        rw [Bool.and_eq_true] at c
        obtain ⟨ky, rfl, rfl⟩ := key_rep ry c.1
        obtain ⟨v, h1, h2⟩ := (dget_rep ky r).1 d e
        exact .inr ⟨_, v, rfl, h1 ▸ dget_frz q1 ky, k v H Grow.rfl h2⟩
      · rw [if_neg c] at e; cases e
    | _ => cases e
end
/-! ### what is walked: list, tuple, dict, text -/
def itemsG : D → Option (List D)
  | .lst xs => some xs
  | .tup xs => some xs
  | .dic ks _ => if ks.all isK = true then some ks else none
  | .str z => some (z.cps.toList.map fun c => .str ⟨#[c]⟩)
  | _ => none
def itemsGM (f : M D) : M (List D) := bindM f fun d => liftM (itemsG d)
theorem iter_keys {m : Md} {H : Hp} {a : Addr} {o : Obj} {kvs : List (Key × V)} (h : H a = some (.frz o (.dK kvs))) : IterOk m H (Itk a o kvs) (kvs.map fun p => keyD p.1) where
  stop := fun i H' s hi => ⟨s _ _ h trivial, by simpa using hi⟩
  go := fun i H' s hi => ⟨s _ _ h trivial, by simpa using hi⟩
  yld := fun i H1 v H2 s hi q => by
    obtain ⟨e, k, w, h1, h2⟩ := q
    subst h2
    refine ⟨e, keyD k, by rw [List.getElem?_map, h1]; rfl, ?_⟩
    cases k with
    | inl i => exact .int i
    | inr x => exact .str x
theorem iter_text {m : Md} {H : Hp} {z : Str} : IterOk m H (Its z) (z.cps.toList.map fun c => D.str ⟨#[c]⟩) where
  stop := fun i H' s hi => show z.cps.size ≤ i by simpa using hi
  go := fun i H' s hi => show i < z.cps.size by simpa using hi
  yld := fun i H1 v H2 s hi q => by
    obtain ⟨e, c, h1, h2⟩ := q
    subst h2
    refine ⟨e, .str ⟨#[c]⟩, ?_, .str _⟩
    rw [List.getElem?_map, Array.getElem?_toList, h1]; rfl
section
variable {X : Cx} {G : Gh} {W : WX}
theorem di_gen {tg l : Expr} {f : M D} (hK : G.m = ⟨X.K, X.mg, X.w⟩) (h : DE X G W l f) : DI X G W tg l (itemsGM f) := ⟨fun pins s σ H R I ⟨ρ, k, q⟩ => by
  have eK : G.m.K = X.K := by rw [hK]
  cases e : f ρ with
  | ok d ρ1 =>
    have same : ∀ (xs : List D), itemsG d = some xs → (∀ H1, Stable H H1 → StOk G σ H1 ρ1 → ∀ J, IterOk G.m H1 J xs → R J H1) := fun xs hx H1 s1 k1 J io => by
      have z : itemsGM f ρ = .ok xs ρ1 := by unfold itemsGM bindM; rw [e]; simp only [hx]; rfl
      rw [z] at q
      exact q H1 s1 k1 J io
    have dd : ∀ {Q' : VK}, (∀ v H1, Stable H H1 → StOk G σ H1 ρ1 → Rep G.m H1 v d → Q' v H1) → dT G W f σ H Q' := fun {Q'} hQ => ⟨ρ, k, by rw [e]; exact fun H1 s1 k1 v r => hQ v H1 s1 k1 r⟩
    cases d with
    | lst xs =>
      refine (di_any (tg := tg) hK h).run pins s σ H R I ⟨ρ, k, ?_⟩
      have z : itemsM f ρ = .ok xs ρ1 := by unfold itemsM bindM; rw [e]; rfl
      rw [z]; exact same xs rfl
    | tup xs =>
      refine (di_any (tg := tg) hK h).run pins s σ H R I ⟨ρ, k, ?_⟩
      have z : itemsM f ρ = .ok xs ρ1 := by unfold itemsM bindM; rw [e]; rfl
      rw [z]; exact same xs rfl
    | dic ks vs =>
      refine (pi_keys (tg := tg) h).run pins s σ H R I (dd fun v H1 s1 k1 r => ?_)
      by_cases c : ks.all isK = true
      rotate_left
      · have hn : itemsG (.dic ks vs) = none := by show (if ks.all isK = true then some ks else none) = none; rw [if_neg c]
        have z : itemsGM f ρ = .stuck := by unfold itemsGM bindM; rw [e]; simp only [hn]; rfl
        rw [z] at q; exact q.elim
      have rfl' : itemsG (.dic ks vs) = some ks := by show (if ks.all isK = true then some ks else none) = some ks; rw [if_pos c]
      cases r with
      | dicN q1 n e1 r1 r2 => exact (notK r1 n c).elim
      | dicK q1 rl => exact ⟨_, _, rfl, .inl ⟨_, q1, same _ rfl' H1 s1 k1 _ (iter_keys q1)⟩⟩
    | str z =>
      refine (pi_str (tg := tg) h).run pins s σ H R I (dd fun v H1 s1 k1 r => ?_)
      cases r
      exact ⟨z, rfl, same _ rfl H1 s1 k1 _ iter_text⟩
    | non => have z : itemsGM f ρ = .stuck := by unfold itemsGM bindM; rw [e]; rfl
             rw [z] at q; exact q.elim
    | bl b => have z : itemsGM f ρ = .stuck := by unfold itemsGM bindM; rw [e]; rfl
              rw [z] at q; exact q.elim
    | int i => have z : itemsGM f ρ = .stuck := by unfold itemsGM bindM; rw [e]; rfl
               rw [z] at q; exact q.elim
    | ins a b c => have z : itemsGM f ρ = .stuck := by unfold itemsGM bindM; rw [e]; rfl
                   rw [z] at q; exact q.elim
  | exc c ρ1 =>
    refine (di_any (tg := tg) hK h).run pins s σ H R I ⟨ρ, k, ?_⟩
    have z : itemsGM f ρ = .exc c ρ1 := by unfold itemsGM bindM; rw [e]
    have z2 : itemsM f ρ = .exc c ρ1 := by unfold itemsM bindM; rw [e]
    rw [z] at q; rw [z2]; exact q
  | stuck =>
    have z : itemsGM f ρ = .stuck := by unfold itemsGM bindM; rw [e]
    rw [z] at q; exact q.elim⟩
end
end DL
end
section
namespace DLS
open PySem PySem.Spec PyProof.Rows L2 DL
/-! ### keys as data -/
mutual
def keyN : D → Option NestedKey
  | .int i => some (.num i)
  | .str x => some (.text x)
  | .tup ds => (keyNs ds).map .tup
  | _ => none
def keyNs : List D → Option (List NestedKey)
  | [] => some []
  | d :: ds => (keyN d).bind fun k => (keyNs ds).map (k :: ·)
end
section
variable {m : Md} {H : Hp} {X : Cx} {pins : List (Addr × Obj)} {σ : L2.St} {s : Shared}
mutual
theorem keyN_pu : ∀ {d : D} {k : NestedKey}, keyN d = some k → intK k = true
  | .int i, k, h => by simp [keyN] at h; subst h; rfl
  | .tup ds, k, h => by
    simp only [keyN, Option.map_eq_some_iff] at h
    obtain ⟨ks, h1, rfl⟩ := h
    rw [intK]; exact keyNs_pu h1
  | .non, k, h => by simp [keyN] at h
  | .bl _, k, h => by simp [keyN] at h
  | .str x, k, h => by simp [keyN] at h; subst h; rfl
  | .lst _, k, h => by simp [keyN] at h
  | .dic _ _, k, h => by simp [keyN] at h
  | .ins _ _ _, k, h => by simp [keyN] at h
theorem keyNs_pu : ∀ {ds : List D} {ks : List NestedKey}, keyNs ds = some ks → intKs ks = true
  | [], ks, h => by simp [keyNs] at h; subst h; rfl
  | d :: ds, ks, h => by
    simp only [keyNs, Option.bind_eq_some_iff, Option.map_eq_some_iff] at h
    obtain ⟨k, h1, ks', h2, rfl⟩ := h
    rw [intKs, keyN_pu h1, keyNs_pu h2]; rfl
end
mutual
theorem keyN_inj : ∀ {d e : D} {k : NestedKey}, keyN d = some k → keyN e = some k → d = e
  | .int i, e, k, h, h' => by
    simp [keyN] at h; subst h
    cases e with
    | int j => simp [keyN] at h'; rw [h']
    | tup es =>
      simp only [keyN, Option.map_eq_some_iff] at h'
      obtain ⟨_, _, h'⟩ := h'
      cases h'
    | _ => simp [keyN] at h'
  | .str i, e, k, h, h' => by
    simp [keyN] at h; subst h
    cases e with
    | str j => simp [keyN] at h'; rw [h']
    | tup es =>
      simp only [keyN, Option.map_eq_some_iff] at h'
      obtain ⟨_, _, h'⟩ := h'
      cases h'
    | _ => simp [keyN] at h'
  | .tup ds, e, k, h, h' => by
    simp only [keyN, Option.map_eq_some_iff] at h
    obtain ⟨ks, h1, rfl⟩ := h
    cases e with
    | int j => simp [keyN] at h'
    | tup es =>
      simp only [keyN, Option.map_eq_some_iff] at h'
      obtain ⟨ks', h2, h3⟩ := h'
      injection h3 with h3
      subst h3
      rw [keyNs_inj h1 h2]
    | _ => simp [keyN] at h'
  | .non, _, k, h, _ => by simp [keyN] at h
  | .bl _, _, k, h, _ => by simp [keyN] at h
  | .lst _, _, k, h, _ => by simp [keyN] at h
  | .dic _ _, _, k, h, _ => by simp [keyN] at h
  | .ins _ _ _, _, k, h, _ => by simp [keyN] at h
theorem keyNs_inj : ∀ {ds es : List D} {ks : List NestedKey}, keyNs ds = some ks → keyNs es = some ks → ds = es
  | [], es, ks, h, h' => by
    simp [keyNs] at h; subst h
    cases es with
    | nil => rfl
    | cons e es =>
      simp only [keyNs, Option.bind_eq_some_iff, Option.map_eq_some_iff] at h'
      obtain ⟨_, _, _, _, h'⟩ := h'
      cases h'
  | d :: ds, es, ks, h, h' => by
    simp only [keyNs, Option.bind_eq_some_iff, Option.map_eq_some_iff] at h
    obtain ⟨k, h1, ks', h2, rfl⟩ := h
    cases es with
    | nil => simp [keyNs] at h'
    | cons e es =>
      simp only [keyNs, Option.bind_eq_some_iff, Option.map_eq_some_iff] at h'
      obtain ⟨k', h3, ks3, h4, h5⟩ := h'
      injection h5 with h5 h6
      subst h5 h6
      rw [keyN_inj h1 h3, keyNs_inj h2 h4]
end
mutual
theorem key_is (I : Inv X pins σ H s) (hm : m.K = X.K) : ∀ {d : D} {v : V} {u : Value} {k : NestedKey}, Rep m H v d → keyN d = some k → L2.RelV v u → NestedIs s.heap k u
  | .int i, v, u, k, r, h, ru => by
    simp [keyN] at h; subst h
    cases r
    obtain ⟨t, rfl⟩ := ru
    exact .int _ _
  | .str x, v, u, k, r, h, ru => by
    simp [keyN] at h; subst h
    cases r
    obtain ⟨t, rfl⟩ := ru
    exact .text _ _
  | .tup ds, v, u, k, r, h, ru => by
    simp only [keyN, Option.map_eq_some_iff] at h
    obtain ⟨ks, h1, rfl⟩ := h
    cases r with
    | tup hq rl =>
      rw [hm] at hq
      obtain ⟨its, rv, ⟨o, ho, hc, n, hd⟩, _⟩ := I.tuple hq
      cases ru
      exact .tup ho hc hd (by simpa using keys_is I hm rl h1 rv)
  | .non, _, _, k, _, h, _ => by simp [keyN] at h
  | .bl _, _, _, k, _, h, _ => by simp [keyN] at h
  | .lst _, _, _, k, _, h, _ => by simp [keyN] at h
  | .dic _ _, _, _, k, _, h, _ => by simp [keyN] at h
  | .ins _ _ _, _, _, k, _, h, _ => by simp [keyN] at h
theorem keys_is (I : Inv X pins σ H s) (hm : m.K = X.K) : ∀ {ds : List D} {vs : List V} {us : List Value} {ks : List NestedKey}, RepL m H vs ds → keyNs ds = some ks → Vals vs us → NestedAll s.heap ks us
  | [], _, _, ks, r, h, ru => by
    simp [keyNs] at h; subst h
    cases r
    cases ru
    exact .nil
  | d :: ds, _, _, ks, r, h, ru => by
    simp only [keyNs, Option.bind_eq_some_iff, Option.map_eq_some_iff] at h
    obtain ⟨k, h1, ks', h2, rfl⟩ := h
    cases r with
    | cons a b =>
      cases ru with
      | cons c e => exact .cons (key_is I hm a h1 c) (keys_is I hm b h2 e)
end
end
/-- the data of a list without the later equal ones -/
def nubK (seen : List NestedKey) : List D → List D
  | [] => []
  | d :: ds => match keyN d with
    | some k => if seen.contains k then nubK seen ds else d :: nubK (k :: seen) ds
    | none => nubK seen ds
/-- tuples of whole numbers, nested no deeper than 8, fewer than 64 different ones -/
def isKey (d : D) : Bool := match d, keyN d with
  | .tup _, some k => decide (k.depth ≤ 8)
  | _, _ => false
def setOk (ds : List D) : Bool := ds.all isKey && decide ((nubK [] ds).length < 77)
instance : LawfulBEq NestedKey where
  eq_of_beq h := of_decide_eq_true h
  rfl := decide_eq_true rfl
theorem isKey_inv {d : D} (h : isKey d = true) : ∃ ds k, d = .tup ds ∧ keyN d = some k ∧ k.depth ≤ 8 := by
  unfold isKey at h
  cases d with
  | tup ds =>
    cases q : keyN (.tup ds) with
    | none => rw [q] at h; simp at h
    | some k => rw [q] at h; simp at h; exact ⟨ds, k, rfl, rfl, h⟩
  | _ => simp at h
theorem nub_mem {d : D} : ∀ {ds : List D} {seen : List NestedKey}, d ∈ nubK seen ds → d ∈ ds
  | [], _, h => by simp [nubK] at h
  | e :: ds, seen, h => by
    unfold nubK at h
    split at h
    · split at h
      · exact List.mem_cons_of_mem _ (nub_mem h)
      · rcases List.mem_cons.mp h with rfl | h
        · exact List.mem_cons_self
        · exact List.mem_cons_of_mem _ (nub_mem h)
    · exact List.mem_cons_of_mem _ (nub_mem h)
theorem nub_key {k : NestedKey} : ∀ {ds : List D} {seen : List NestedKey}, (∃ d ∈ ds, keyN d = some k) → k ∈ seen ∨ ∃ d ∈ nubK seen ds, keyN d = some k
  | [], _, ⟨d, h, _⟩ => absurd h List.not_mem_nil
  | e :: ds, seen, ⟨d, h, hk⟩ => by
    unfold nubK
    cases q : keyN e with
    | none =>
      rcases List.mem_cons.mp h with rfl | h
      · rw [q] at hk; cases hk
      · exact nub_key ⟨d, h, hk⟩
    | some ke =>
      dsimp only
      by_cases c : seen.contains ke = true
      · rw [if_pos c]
        rcases List.mem_cons.mp h with rfl | h
        · rw [q] at hk; cases hk
          exact .inl (by simpa using c)
        · exact nub_key ⟨d, h, hk⟩
      · rw [if_neg c]
        rcases List.mem_cons.mp h with rfl | h
        · exact .inr ⟨d, List.mem_cons_self, hk⟩
        · rcases nub_key (seen := ke :: seen) ⟨d, h, hk⟩ with z | ⟨d2, h2, hk2⟩
          · rcases List.mem_cons.mp z with rfl | z
            · exact .inr ⟨e, List.mem_cons_self, q⟩
            · exact .inl z
          · exact .inr ⟨d2, List.mem_cons_of_mem _ h2, hk2⟩
theorem nub_dif : ∀ {ds : List D} {seen : List NestedKey}, (nubK seen ds).Nodup ∧ ∀ d ∈ nubK seen ds, ∀ k, keyN d = some k → k ∉ seen
  | [], _ => ⟨List.nodup_nil, fun d h => absurd h List.not_mem_nil⟩
  | e :: ds, seen => by
    unfold nubK
    cases q : keyN e with
    | none => exact nub_dif
    | some ke =>
      dsimp only
      by_cases c : seen.contains ke = true
      · rw [if_pos c]; exact nub_dif
      · rw [if_neg c]
        obtain ⟨h1, h2⟩ := nub_dif (ds := ds) (seen := ke :: seen)
        refine ⟨List.nodup_cons.mpr ⟨fun z => ?_, h1⟩, fun d hd k hk => ?_⟩
        · exact h2 e z ke q List.mem_cons_self
        · rcases List.mem_cons.mp hd with rfl | hd
          · rw [q] at hk; cases hk
            simpa using c
          · exact fun z => h2 d hd k hk (List.mem_cons_of_mem _ z)
theorem sub_len {α : Type} [DecidableEq α] : ∀ {M N : List α}, M.Nodup → (∀ x ∈ M, x ∈ N) → M.length ≤ N.length
  | [], _, _, _ => Nat.zero_le _
  | x :: M, N, h, hs => by
    obtain ⟨h1, h2⟩ := List.nodup_cons.mp h
    have hx := hs x List.mem_cons_self
    have ih := sub_len (N := N.erase x) h2 fun y hy => (List.mem_erase_of_ne (fun z => h1 (by rw [← z]; exact hy))).mpr (hs y (List.mem_cons_of_mem _ hy))
    rw [List.length_erase_of_mem hx] at ih
    have : 0 < N.length := List.length_pos_of_mem hx
    simp only [List.length_cons]
    omega
/-- the set at a, as an abstract object -/
def SetN (w : World) (a : Addr) (L : List Ent) : HO := .ext fun h => ∃ es ep t, (∃ o, h.get? a = some o ∧ o.ExactSet ∧ o.data = .set es ep t) ∧ es.toList = rws w L ∧ TabOk t (L.map fun e => hk w e.2) ∧ (L.map (·.2)).Nodup ∧
  (w.params.followText "set-order" = true ∨ t.led = true) ∧ L.length * 5 < t.mask * 3 ∧ L.length < 77
theorem setN_ok {P : Program} {w : World} {H : Hp} {h : Heap} {a : Addr} {L : List Ent} {es : Array (Int × Value)} {ep : Nat} {t : SetTable} (B : Tb w h a L es ep t) : ObjOk P w H h a (SetN w a L) := by
  obtain ⟨o, ho, r⟩ := B.at_
  refine ⟨⟨es, ep, t, ⟨o, ho, r⟩, B.rw_, B.tab, B.dif, B.led, B.spc, B.few⟩, ⟨o, ho⟩, fun h1 h2 ⟨es', ep', t', ⟨o', ho', r'⟩, q⟩ kp => ⟨es', ep', t', ⟨o', kp o' ho', r'⟩, q⟩⟩
/-- an entry that stands for data -/
def EntOk (m : Md) (H : Hp) (e : Ent) (d : D) : Prop := Rep m H (.ref e.1) d ∧ keyN d = some e.2 ∧ e.2.depth ≤ 8
section
variable {m : Md} {H : Hp} {X : Cx} {pins : List (Addr × Obj)} {σ : L2.St} {s : Shared}
theorem EntOk.el {e : Ent} {d : D} (h : EntOk m H e d) (I : Inv X pins σ H s) (hm : m.K = X.K) : El s.heap e.2 e.1 := ⟨key_is I hm h.1 h.2.1 rfl, h.2.2, keyN_pu h.2.1⟩
/-- set(xs) -/
def rSetN (m : Md) (w : World) : List V → Hp → VK → Prop := fun vs H Q => ∃ (a : Addr) (xs : List V) (ds : List D), vs = [V.ref a] ∧ SqL m.K H a xs ∧ RepL m H xs ds ∧ setOk ds = true ∧
  ∀ l L, H l = none → (∀ e ∈ L, ∃ d ∈ ds, EntOk m H e d) → (∀ d ∈ ds, ∃ e ∈ L, keyN d = some e.2) → (L.map (·.2)).Nodup → Q (.ref l) (upd H l (SetN w l L))
theorem ents_of : ∀ {xs : List V} {ds : List D}, RepL m H xs ds → ds.all isKey = true → ∃ ks : List Ent, xs = ks.map (fun e => V.ref e.1) ∧ ds.length = ks.length ∧ ∀ (i : Nat) (e : Ent), ks[i]? = some e → ∃ d, ds[i]? = some d ∧ EntOk m H e d
  | _, [], r, _ => by cases r; exact ⟨[], rfl, rfl, fun i e h => by simp at h⟩
  | _, d :: ds, r, h => by
    cases r with
    | cons a b =>
      rw [List.all_cons, Bool.and_eq_true] at h
      obtain ⟨ks, e1, e2, e3⟩ := ents_of b h.2
      obtain ⟨l, k, rfl, h2, h3⟩ := isKey_inv h.1
      cases a with
      | tup hq rl =>
        rename_i ad vs
        refine ⟨(ad, k) :: ks, by rw [e1]; rfl, by simp [e2], fun i e he => ?_⟩
        cases i with
        | zero => simp at he; subst he; exact ⟨_, rfl, .tup hq rl, h2, h3⟩
        | succ i => simpa using e3 i e (by simpa using he)
theorem cr_setN (hm : m.K = X.K) (hc : X.calm = true) (hv : X.A.units + 130 < cLine) : CallR X (.type "set") (rSetN m X.w) := by
  intro pins s σ H xs us Q I r ⟨l, ws, ds, ex, hl, rl, ok, q⟩
  subst ex
  rw [hm] at hl
  unfold setOk at ok
  rw [Bool.and_eq_true, decide_eq_true_eq] at ok
  obtain ⟨ks, ek, el, ee⟩ := ents_of rl ok.1
  subst ek
  rw [Vals.ref1 r]
  obtain ⟨its, rv, pl, hz⟩ := I.list hl
  have hit : its = ks.map fun e => Value.ref e.1 := by
    clear ee el rl hz hl pl
    induction ks generalizing its with
    | nil => cases rv; rfl
    | cons e ks ih => cases rv with
      | cons a b => cases a; rw [ih _ b]; rfl
  have mem : ∀ e ∈ ks, ∃ d ∈ ds, EntOk m H e d := fun e he => by
    obtain ⟨i, hi, ei⟩ := List.getElem_of_mem he
    obtain ⟨d, hd, z⟩ := ee i e (by rw [List.getElem?_eq_getElem hi, ei])
    exact ⟨d, List.mem_of_getElem? hd, z⟩
  have few : Few ks := fun M nd sub => by
    have h1 : ∀ k ∈ M, k ∈ (nubK [] ds).filterMap keyN := fun k hk => by
      obtain ⟨e, he, rfl⟩ := List.mem_map.mp (sub k hk)
      obtain ⟨d, hd, _, z, _⟩ := mem e he
      rcases nub_key (seen := []) ⟨d, hd, z⟩ with y | ⟨d2, h2, z2⟩
      · exact absurd y List.not_mem_nil
      · exact List.mem_filterMap.mpr ⟨d2, h2, z2⟩
    have := sub_len nd h1
    have := List.length_filterMap_le keyN (nubK [] ds)
    omega
  have hn : H s.heap.objs.size = none := I.hok.fresh (Nat.le_refl _)
  refine make_set (P := X.prog) (w := X.w) ks (I.ok.hd hc) pl.isList (by simpa using hit) (fun e he => by obtain ⟨d, _, z⟩ := mem e he; exact z.el I hm) few (by omega) fun h' tk L es ep t B u kp => ?_
  refine ⟨.ref s.heap.objs.size, upd H s.heap.objs.size (SetN X.w s.heap.objs.size L), I.laid (t' := tk) kp (Nat.le_refl _) (setN_ok B), rfl, q _ L hn (fun e he => mem e (List.mem_of_mem_take (u.sub e he))) (fun d hd => ?_) B.dif⟩
  obtain ⟨i, hi, ei⟩ := List.getElem_of_mem hd
  obtain ⟨e, he⟩ : ∃ e, ks[i]? = some e := ⟨_, List.getElem?_eq_getElem (by rw [← el]; exact hi)⟩
  obtain ⟨d', hd', _, z, _⟩ := ee i e he
  rw [List.getElem?_eq_getElem hi, ei] at hd'
  cases hd'
  obtain ⟨e2, h2, z2⟩ := List.mem_map.mp (u.all e (by rw [List.take_length]; exact List.mem_of_getElem? he))
  exact ⟨e2, h2, by rw [z, z2]⟩
end
end DLS
end
section
namespace DLS
open PySem PySem.Spec PyProof.Rows L2 DL
mutual
def dOf : NestedKey → D
  | .num i => .int i
  | .tup ks => .tup (dOfs ks)
  | .none => .non
  | .text x => .str x
def dOfs : List NestedKey → List D
  | [] => []
  | k :: ks => dOf k :: dOfs ks
end
mutual
theorem dOf_key : ∀ {d : D} {k : NestedKey}, keyN d = some k → dOf k = d
  | .int i, k, h => by simp [keyN] at h; subst h; rfl
  | .tup ds, k, h => by
    simp only [keyN, Option.map_eq_some_iff] at h
    obtain ⟨ks, h1, rfl⟩ := h
    rw [dOf, dOfs_key h1]
  | .non, k, h => by simp [keyN] at h
  | .bl _, k, h => by simp [keyN] at h
  | .str x, k, h => by simp [keyN] at h; subst h; rfl
  | .lst _, k, h => by simp [keyN] at h
  | .dic _ _, k, h => by simp [keyN] at h
  | .ins _ _ _, k, h => by simp [keyN] at h
theorem dOfs_key : ∀ {ds : List D} {ks : List NestedKey}, keyNs ds = some ks → dOfs ks = ds
  | [], ks, h => by simp [keyNs] at h; subst h; rfl
  | d :: ds, ks, h => by
    simp only [keyNs, Option.bind_eq_some_iff, Option.map_eq_some_iff] at h
    obtain ⟨k, h1, ks', h2, rfl⟩ := h
    rw [dOfs, dOf_key h1, dOfs_key h2]
end
mutual
theorem eqv_key : ∀ {d e : D} {k : NestedKey}, keyN d = some k → PyData.eqv (toPy d) (toPy e) = true → (keyN e).isSome = true → d = e
  | .int i, e, k, _, q, he => by
    cases e <;> simp [keyN] at he
    · simp [toPy, PyData.eqv] at q; rw [q]
    · simp [toPy, PyData.eqv] at q
    · simp [toPy, PyData.eqv] at q
  | .str i, e, k, _, q, he => by
    cases e <;> simp [keyN] at he
    · simp [toPy, PyData.eqv] at q
    · simp [toPy, PyData.eqv] at q; rw [q]
    · simp [toPy, PyData.eqv] at q
  | .tup ds, e, k, h, q, he => by
    simp only [keyN, Option.map_eq_some_iff] at h
    obtain ⟨ks, h1, _⟩ := h
    cases e with
    | tup es =>
      simp only [toPy, PyData.eqv] at q
      simp only [keyN, Option.isSome_map] at he
      rw [eqv_keys h1 q he]
    | int j => simp [toPy, PyData.eqv] at q
    | str j => simp [toPy, PyData.eqv] at q
    | _ => simp [keyN] at he
  | .non, _, k, h, _, _ => by simp [keyN] at h
  | .bl _, _, k, h, _, _ => by simp [keyN] at h
  | .lst _, _, k, h, _, _ => by simp [keyN] at h
  | .dic _ _, _, k, h, _, _ => by simp [keyN] at h
  | .ins _ _ _, _, k, h, _, _ => by simp [keyN] at h
theorem eqv_keys : ∀ {ds es : List D} {ks : List NestedKey}, keyNs ds = some ks → PyData.eqvAll (toPyL ds) (toPyL es) = true → (keyNs es).isSome = true → ds = es
  | [], es, ks, _, q, _ => by
    cases es with
    | nil => rfl
    | cons e es => simp [toPyL, PyData.eqvAll] at q
  | d :: ds, es, ks, h, q, he => by
    simp only [keyNs, Option.bind_eq_some_iff, Option.map_eq_some_iff] at h
    obtain ⟨k, h1, ks', h2, _⟩ := h
    cases es with
    | nil => simp [toPyL, PyData.eqvAll] at q
    | cons e es =>
      simp only [toPyL, PyData.eqvAll, Bool.and_eq_true] at q
      have he2 : (keyN e).isSome = true ∧ (keyNs es).isSome = true := by
        simp only [keyNs] at he
        cases q1 : keyN e with
        | none => rw [q1] at he; simp at he
        | some _ => rw [q1] at he; simp at he; exact ⟨rfl, by simpa using he⟩
      rw [eqv_key h1 q.1 he2.1, eqv_keys h2 q.2 he2.2]
end
/-- neither below the other: the same data -/
theorem dLe_anti {d e : D} {k : NestedKey} (h : keyN d = some k) (he : (keyN e).isSome = true) (al : PySem.W.alike (toPy d) (toPy e) = true) (h1 : dLe d e = true) (h2 : dLe e d = true) : d = e := by
  have a1 : lexLt itemOrd (keyT e) (keyT d) = false := by simpa [dLe, dLt, PySem.W.dataLt, keyT] using h1
  have a2 : lexLt itemOrd (keyT d) (keyT e) = false := by simpa [dLe, dLt, PySem.W.dataLt, keyT] using h2
  have eq : keyT d = keyT e := (listOrd itemOrd).total _ _ a2 a1
  refine eqv_key h ?_ he
  cases q : PyData.eqv (toPy d) (toPy e) with
  | true => rfl
  | false =>
    have z := (PySem.W.toks_eqv (toPy d) (toPy e) al).2 q [] [.inl 0]
    have eq2 : PySem.W.keyToks (toPy d) = PySem.W.keyToks (toPy e) := eq
    rw [eq2, PySem.W.lex_pre] at z
    have y := (listOrd itemOrd).irrefl (PySem.W.keyToks (toPy e))
    have y : lexLt itemOrd (PySem.W.keyToks (toPy e)) (PySem.W.keyToks (toPy e)) = false := y
    rw [y] at z
    exact absurd z (by simp [PyProof.Rows.lexLt])
section
variable {m : Md} {H : Hp} {X : Cx}
/-- sorted(a set) -/
def rSortN (m : Md) (w : World) : List V → Hp → VK → Prop := fun vs H Q => ∃ (a : Addr) (L : List Ent) (ds : List D), vs = [V.ref a] ∧ H a = some (SetN w a L) ∧ (∀ e ∈ L, ∃ d ∈ ds, EntOk m H e d) ∧ (∀ d ∈ ds, ∃ e ∈ L, keyN d = some e.2) ∧ (L.map (·.2)).Nodup ∧ setOk ds = true ∧ canSort ds = true ∧
  ∀ ys p, RepL m H ys (srtD (nubK [] ds)) → H p = none → Q (.ref p) (upd H p (.lst ys))
theorem cr_sortN (hm : m.K = X.K) (hc : X.calm = true) (hv : X.A.units + 130 < cLine) : CallR X (.builtin "sorted") (rSortN m X.w) := by
  intro pins s σ H xs us Q I r ⟨a, L, ds, ex, ha, sub, cov, dif, ok, cs, q⟩
  subst ex
  rw [Vals.ref1 r]
  obtain ⟨⟨es, ep, t, ⟨o, ho, hex, hd⟩, hr, tab, _, led, spc, few⟩, _⟩ := (show ObjOk X.prog X.w H s.heap a (SetN X.w a L) from I.hok a _ ha)
  have ent : ∀ e ∈ L, EntOk m H e (dOf e.2) := fun e he => by
    obtain ⟨d, _, z⟩ := sub e he
    rw [dOf_key z.2.1]; exact z
  have els : ∀ e ∈ L, El s.heap e.2 e.1 := fun e he => (ent e he).el I hm
  have B : Tb X.w s.heap a L es ep t := ⟨⟨o, ho, hex, hd⟩, hr, tab, dif, els, led, spc, few⟩
  unfold canSort at cs
  rw [Bool.and_eq_true, Bool.and_eq_true, Bool.or_eq_true] at cs
  obtain ⟨c1, c2, c3⟩ := cs
  unfold setOk at ok
  rw [Bool.and_eq_true, decide_eq_true_eq] at ok
  have inds : ∀ e ∈ L, dOf e.2 ∈ ds := fun e he => by
    obtain ⟨d, hd, z⟩ := sub e he
    rw [dOf_key z.2.1]; exact hd
  have alk : ∀ d ∈ ds, ∀ d' ∈ ds, PySem.W.alike (toPy d) (toPy d') = true := fun d hd d' hd' => List.all_eq_true.mp (List.all_eq_true.mp c2 d hd) d' hd'
  have one : ∀ e ∈ L, ∀ e' ∈ L, e.1 = e'.1 → e.2 = e'.2 := fun e he e' he' z => by
    have x1 := (els e he).is
    rw [z] at x1
    exact NestedIs.inj _ _ _ x1 (els e' he').is
  -- which entry a value stands for
  have hx : ∀ u : Value, ∃ e : Ent, (∃ e' ∈ L, u = Value.ref e'.1) → e ∈ L ∧ u = Value.ref e.1 := fun u => by
    by_cases c : ∃ e' ∈ L, u = Value.ref e'.1
    · obtain ⟨e, he, z⟩ := c
      exact ⟨e, fun _ => ⟨he, z⟩⟩
    · exact ⟨(0, .none), fun z => absurd z c⟩
  obtain ⟨ch, hch⟩ : ∃ ch : Value → Ent, ∀ u, (∃ e' ∈ L, u = Value.ref e'.1) → ch u ∈ L ∧ u = Value.ref (ch u).1 := ⟨fun u => (hx u).choose, fun u => (hx u).choose_spec⟩
  refine Calls.call_function_entry kind_sorted plain_sorted entry_sorted (args_sorted1 _) ?_
  unfold Builtin.«sorted»
  refine wpAny_bind (m := checkCount "sorted" 1 1 _) (wpAny_pure ?_)
  refine wpAny_bind (collect_set (A := X.A.in1) (I.ok.hd hc) ⟨o, ho, hex.1, hd⟩ B.fits (by unfold scanBound; have := B.sz; omega) tab.ris led fun s1 vs k1 hz g1 o1 pm => ?_)
  have e1 : es.toList.map (·.2) = L.map fun e => Value.ref e.1 := by rw [hr]; unfold rws; rw [List.map_map]; rfl
  rw [e1] at pm
  have vin : ∀ v ∈ vs, ∃ e' ∈ L, v = Value.ref e'.1 := fun v hv => by
    obtain ⟨e, he, z⟩ := List.mem_map.mp (pm.mem_iff.mp hv)
    exact ⟨e, he, z.symm⟩
  have vlen : vs.length < 77 := by rw [pm.length_eq, List.length_map]; exact few
  refine wpAny_bind (wpAny_newList ?_ (by rw [sizeLine_eq]; omega))
  have hoL : (s1.heap.push (seqObj "list" vs.toArray 0)).get? s1.heap.objs.size = some (seqObj "list" vs.toArray 0) := Heap.get?_push_size _ rfl
  have kp2 : ∀ b u, s.heap.get? b = some u → (PySem.W.sortingHeap (s1.heap.push (seqObj "list" vs.toArray 0)) s1.heap.objs.size vs).get? b = some u := fun b u z => by
    have y := k1 b u z
    exact PySem.W.sortingHeap_old (Nat.ne_of_lt (Heap.lt_size y)) (Heap.get?_push_of_some _ y)
  have reads : ∀ v ∈ vs, ∃ as, Reads (PySem.W.sortingHeap (s1.heap.push (seqObj "list" vs.toArray 0)) s1.heap.objs.size vs) v (toPy (dOf (ch v).2)) as := fun v hv => by
    obtain ⟨z1, z2⟩ := hch v (vin v hv)
    have okd := List.all_eq_true.mp c1 _ (inds _ z1)
    have dp := (ent _ z1).1.dp (SeqAt.canLay_of_shaped okd)
    rw [hm] at dp
    obtain ⟨as, r1⟩ := Dp.reads I _ _ v dp z2
    exact ⟨as, Reads.keeps kp2 r1⟩
  have each : ∀ {us : List Value}, (∀ u ∈ us, u ∈ vs) → PySem.W.EachIs (fun (u : Value) (b : Value) => u = b ∧ b ∈ vs) us us := by
    intro us
    induction us with
    | nil => exact fun _ => .nil
    | cons u us ih => exact fun h => .cons ⟨rfl, h u List.mem_cons_self⟩ (ih fun w hw => h w (List.mem_cons_of_mem _ hw))
  have each0 := each (us := vs) fun _ z => z
  have eachP : PySem.W.EachIs (fun v d => ∃ as, Reads (PySem.W.sortingHeap (s1.heap.push (seqObj "list" vs.toArray 0)) s1.heap.objs.size vs) v d as) vs (vs.map fun u => toPy (dOf (ch u).2)) := by
    have go : ∀ us : List Value, (∀ u ∈ us, u ∈ vs) → PySem.W.EachIs (fun v d => ∃ as, Reads (PySem.W.sortingHeap (s1.heap.push (seqObj "list" vs.toArray 0)) s1.heap.objs.size vs) v d as) us (us.map fun u => toPy (dOf (ch u).2)) := by
      intro us
      induction us with
      | nil => exact fun _ => .nil
      | cons u us ih => exact fun h => .cons (reads u (h u List.mem_cons_self)) (ih fun w hw => h w (List.mem_cons_of_mem _ hw))
    exact go vs fun _ z => z
  have inv : ∀ d ∈ vs.map (fun u => toPy (dOf (ch u).2)), ∃ x ∈ ds, d = toPy x := fun d hd => by
    obtain ⟨u, hu, rfl⟩ := List.mem_map.mp hd
    exact ⟨_, inds _ (hch u (vin u hu)).1, rfl⟩
  have al : PySem.W.AllAlike (vs.map fun u => toPy (dOf (ch u).2)) := fun d hd d' hd' => by
    obtain ⟨x, hx, rfl⟩ := inv d hd
    obtain ⟨y, hy, rfl⟩ := inv d' hd'
    exact alk x hx y hy
  have sb : PySem.W.Sortable (vs.map fun u => toPy (dOf (ch u).2)) := by
    rcases c3 with c3 | c3
    · refine .inl fun d hd => ?_
      obtain ⟨x, hx, rfl⟩ := inv d hd
      have y := List.all_eq_true.mp c3 x hx
      cases x with
      | tup l => cases l with
        | nil => simp [isTup] at y
        | cons z l => exact ⟨_, _, rfl⟩
      | _ => simp [isTup] at y
    · refine .inr fun d hd => ?_
      obtain ⟨x, hx, rfl⟩ := inv d hd
      have y := List.all_eq_true.mp c3 x hx
      cases x <;> simp [notTup, toPy] at y ⊢
  have dep : ∀ d ∈ vs.map (fun u => toPy (dOf (ch u).2)), X.A.in1.in1.units + d.depth < cLine := fun d hd => by
    obtain ⟨x, hx, rfl⟩ := inv d hd
    have y := SeqAt.depth_of_shaped (List.all_eq_true.mp c1 x hx)
    show X.A.units + 1 + 1 + _ < _
    omega
  have S := PySem.W.SortsAt.data (prog := X.prog) (w := X.w) (A := X.A.in1.in1) (s := { s1 with heap := PySem.W.sortingHeap (s1.heap.push (seqObj "list" vs.toArray 0)) s1.heap.objs.size vs }) eachP al sb dep
  refine wpAny_bind (wpAny_holding (wpAny_call_entry slot_list_sort ⟨_, hoL, rfl⟩ entry_list_sort (PySem.W.list_sort_vals (s := { s1 with heap := s1.heap.push (seqObj "list" vs.toArray 0) }) hoL S (by rw [sizeLine_eq]; omega) ⟨_, rfl, ?_⟩) (args_list_sort _)))
  have keys : PySem.W.EachIs (fun (v : Value) (b : Value) => (PySem.W.dataKind (PySem.W.sortingHeap (s1.heap.push (seqObj "list" vs.toArray 0)) s1.heap.objs.size vs) (vs.map fun u => toPy (dOf (ch u).2))).keyOf v = some (keyT (dOf (ch b).2))) vs vs := by
    refine PySem.W.EachIs.mono (fun u b hb => ?_) each0
    obtain ⟨rfl, hb⟩ := hb
    obtain ⟨as, r1⟩ := reads u hb
    exact PySem.W.dataKind_some al (List.mem_map.mpr ⟨u, hb, rfl⟩) r1
  have out := PySem.W.sortVals_each (κ := PySem.W.dataKind (PySem.W.sortingHeap (s1.heap.push (seqObj "list" vs.toArray 0)) s1.heap.objs.size vs) (vs.map fun u => toPy (dOf (ch u).2))) (rev := false) (fun b : Value => keyT (dOf (ch b).2)) each0 keys
  generalize PySem.W.sortVals _ false vs vs = res at out
  have er : res = vs.mergeSort (PySem.W.sortLe (listOrd itemOrd) false fun b : Value => keyT (dOf (ch b).2)) := by
    have go : ∀ {us bs : List Value}, PySem.W.EachIs (fun (u : Value) (b : Value) => u = b ∧ b ∈ vs) us bs → us = bs := by
      intro us bs e
      induction e with
      | nil => rfl
      | cons h1 _ ih => rw [h1.1, ih]
    exact go out
  have rin : ∀ u ∈ res, u ∈ vs := fun u hu => by rw [er] at hu; exact (List.mergeSort_perm _ _).mem_iff.mp hu
  have rdat : res.map (fun u => dOf (ch u).2) = srtD (nubK [] ds) := by
    have d1 : res.map (fun u => dOf (ch u).2) = isort dLe (vs.map fun u => dOf (ch u).2) := by
      rw [isort_eq dLe_total, dLe_eq, er]
      exact PySem.W.sort_maps (s := PySem.W.sortLe (listOrd itemOrd) false keyT) (fun u => dOf (ch u).2) fun _ _ _ _ => rfl
    rw [d1]
    have pmD : (vs.map fun u => dOf (ch u).2).Perm (nubK [] ds) := by
      have p1 := pm.map fun u => dOf (ch u).2
      rw [List.map_map] at p1
      have p2 : (L.map ((fun u => dOf (ch u).2) ∘ fun e => Value.ref e.1)) = L.map fun e => dOf e.2 := List.map_congr_left fun e he => by
        obtain ⟨z1, z2⟩ := hch (Value.ref e.1) ⟨e, he, rfl⟩
        have z3 : e.1 = (ch (Value.ref e.1)).1 := by injection z2
        exact congrArg dOf (one _ z1 e he z3.symm)
      rw [p2] at p1
      refine p1.trans ((List.perm_ext_iff_of_nodup ?_ nub_dif.1).mpr fun d => ⟨fun hd => ?_, fun hd => ?_⟩)
      · refine List.pairwise_map.mpr (List.Pairwise.imp_of_mem (fun {e e'} he he' ne z => ne ?_) (List.pairwise_map.mp dif))
        have k1 := (ent e he).2.1
        have k2 := (ent e' he').2.1
        rw [z] at k1
        rw [k1] at k2
        exact Option.some.inj k2
      · obtain ⟨e, he, rfl⟩ := List.mem_map.mp hd
        rcases nub_key (seen := []) ⟨_, inds e he, (ent e he).2.1⟩ with y | ⟨d2, h2, z2⟩
        · exact absurd y List.not_mem_nil
        · rw [keyN_inj (ent e he).2.1 z2]; exact h2
      · obtain ⟨e, he, z⟩ := cov d (nub_mem hd)
        exact List.mem_map.mpr ⟨e, he, dOf_key z⟩
    have pmS : ∀ l : List D, (isort dLe l).Perm l := fun l => by rw [isort_eq dLe_total]; exact List.mergeSort_perm _ _
    have mk : ∀ d, d ∈ nubK [] ds → d ∈ ds ∧ ∃ k, keyN d = some k := fun d hd => ⟨nub_mem hd, by
      obtain ⟨_, k, _, z, _⟩ := isKey_inv (List.all_eq_true.mp ok.1 d (nub_mem hd)); exact ⟨k, z⟩⟩
    refine List.Perm.eq_of_pairwise (le := fun a b => dLe a b = true) (fun x y hx hy h1 h2 => ?_) (isort_pw dLe_total _) (isort_pw dLe_total _) (((pmS _).trans pmD).trans (pmS _).symm)
    obtain ⟨x1, k, x2⟩ := mk x (pmD.mem_iff.mp ((pmS _).mem_iff.mp hx))
    obtain ⟨y1, k', y2⟩ := mk y ((pmS _).mem_iff.mp hy)
    exact dLe_anti x2 (by rw [y2]; rfl) (alk x x1 y y1) h1 h2
  have rep : RepL m H (res.map fun u => V.ref (ch u).1) (srtD (nubK [] ds)) := by
    rw [← rdat]
    have go : ∀ us : List Value, (∀ u ∈ us, u ∈ vs) → RepL m H (us.map fun u => V.ref (ch u).1) (us.map fun u => dOf (ch u).2) := by
      intro us
      induction us with
      | nil => exact fun _ => .nil
      | cons u us ih => exact fun h => .cons (ent _ (hch u (vin u (h u List.mem_cons_self))).1).1 (ih fun w hw => h w (List.mem_cons_of_mem _ hw))
    exact go res rin
  have vals : Vals (res.map fun u => V.ref (ch u).1) res := by
    have go : ∀ us : List Value, (∀ u ∈ us, u ∈ vs) → Vals (us.map fun u => V.ref (ch u).1) us := by
      intro us
      induction us with
      | nil => exact fun _ => .nil
      | cons u us ih => exact fun h => .cons (hch u (vin u (h u List.mem_cons_self))).2 (ih fun w hw => h w (List.mem_cons_of_mem _ hw))
    exact go res rin
  obtain ⟨c, hc2⟩ := sortedHeap_at (vs := vs) (out := res.toArray) hoL
  have hp : s.heap.objs.size ≤ s1.heap.objs.size := hz
  have kp : ∀ b u, s.heap.get? b = some u → (sortedHeap (s1.heap.push (seqObj "list" vs.toArray 0)) s1.heap.objs.size vs res.toArray).get? b = some u := fun b u z => by
    have y := k1 b u z
    have lt := Heap.lt_size y
    rw [sortedHeap_old (Nat.ne_of_lt lt) (by rw [size_push']; exact Nat.lt_succ_of_lt lt)]
    exact Heap.get?_push_of_some _ y
  have hn : H s1.heap.objs.size = none := I.hok.fresh hp
  have rl : (res.map fun u => V.ref (ch u).1).length ≤ sizeLine := by
    rw [List.length_map, er, (List.mergeSort_perm _ _).length_eq, sizeLine_eq]; omega
  obtain ⟨hh1, gg1, dd1, tt1, oo1⟩ := s1
  obtain rfl : gg1 = s.gens := g1
  obtain rfl : oo1 = s.os := o1
  have J : Inv X pins σ (upd H hh1.objs.size (.lst (res.map fun u => V.ref (ch u).1))) { s with heap := sortedHeap (hh1.push (seqObj "list" vs.toArray 0)) hh1.objs.size vs res.toArray, gens := s.gens, drawn := dd1, toks := tt1 } :=
    I.call (ch := []) (Un.laid kp hp hn) (I.hok.laid kp hp ⟨rl, res, c, vals, hc2⟩) I.bare (fun _ z => nomatch z)
  exact wpAny_pure ⟨_, rfl, ⟨.ref hh1.objs.size, _, J, rfl, q _ _ rep hn⟩⟩
end
end DLS
end
section
namespace DL
open PySem PySem.Spec L2 DLS
open PyProof.Rows hiding St
/-! ### sorted(set(xs)) -/
def sortS : List D → Option (List D)
  | [.lst ds] => if (setOk ds && canSort ds) = true then some (srtD (nubK [] ds)) else none
  | _ => none
section
variable {X : Cx} {G : Gh} {W : WX} {a : Expr} {p p2 q0 pos : Pos}
theorem do_sortSet {f : M (List D)} (hm0 : G.m = ⟨X.K, X.mg, X.w⟩) (hc : X.calm = true) (hv : X.A.units + 130 < cLine) (hg : Gl X "sorted") (hm : X.mg "sorted" = none) (hg2 : Gl X "set") (hm2 : X.mg "set" = none) (ha : DA X G W [a] f)
    (h1 : starEach [.Call (.Name "set" p2) [a] [] q0] X.env = [(false, eval (.Call (.Name "set" p2) [a] [] q0) X.env)] := by rfl) (h2 : starEach [a] X.env = [(false, eval a X.env)] := by rfl)
    (h3 : (backTo pos (starEach [] X.env)).any (·.1) = false := by rfl) (h4 : (backTo q0 (starEach [] X.env)).any (·.1) = false := by rfl) :
    DO X G W (.Call (.Name "sorted" p) [.Call (.Name "set" p2) [a] [] q0] [] pos) (callO sortS f) := by
  have hK : G.m.K = X.K := by rw [hm0]
  have inner := pe_callTy (cr_setN hK hc hv) hg2 hm2 (by decide +kernel) ha (by decide) (by decide) h2 h4 (pos := q0) (p := p2)
  refine pe_imp (pe_callB (cr_sortN hK hc hv) hg hm (by decide +kernel) (pa_cons inner pa_nil h1) (by decide) (by decide) h1 h3) fun σ H Q ⟨ρ, k, q⟩ => ⟨ρ, k, q.bind.mono fun ds ρ1 H1 _ s1 k1 q1 vs r => ?_⟩
  obtain ⟨xs, e, q2⟩ := q1.lift k1
  unfold sortS at e
  split at e
  · rename_i ys _
    split at e
    · rename_i c
      cases e
      rw [Bool.and_eq_true] at c
      obtain ⟨v, rfl, rv⟩ := one_of r
      cases rv with
      | lst hq rl =>
        refine ⟨_, _, ys, rfl, hq.sq, rl, c.1, fun l L hl sub cov dif => ?_⟩
        have g := Grow.new (o := SetN X.w l L) hl
        refine ⟨l, L, ys, rfl, upd_same, fun e he => ?_, cov, dif, c.1, c.2, fun zs l2 rz hl2 => ?_⟩
        · obtain ⟨d, hd, z1, z2⟩ := sub e he
          exact ⟨d, hd, z1.st g.stable, z2⟩
        · have g2 := Grow.new (o := .lst zs) hl2
          have g3 := g.trans g2
          exact q2 _ g3.stable (k1.grow g3) l2 zs upd_same (rz.st g2.stable) ((k1.grow g).fresh hl2)
    · cases e
  · cases e
end
/-! ### sorted(d) -/
def sortK : List D → Option (List D)
  | [.dic ks _] => (strsOf ks).bind fun zs => if zs.length < 64 then some (srtD ks) else none
  | _ => none
theorem keys_str : ∀ {kvs : List (Key × V)} {zs : List Str}, strsOf (kvs.map fun p => keyD p.1) = some zs → kvs.map (·.1) = zs.map Sum.inr
  | [], zs, h => by simp [strsOf] at h; subst h; rfl
  | (k, v) :: kvs, zs, h => by
    cases k with
    | inl i => simp [strsOf, keyD] at h
    | inr x =>
      simp only [List.map_cons, keyD, strsOf, Option.map_eq_some_iff] at h
      obtain ⟨l, h1, rfl⟩ := h
      rw [List.map_cons, List.map_cons, keys_str h1]
theorem str_le (x y : Str) : dLe (.str x) (.str y) = !decide (y.cps.toList < x.cps.toList) := by
  unfold dLe dLt
  simp only [toPy]
  rw [PySem.W.dataLt_str]
theorem rising_pw : ∀ (l : List Str) (x : Str), risingS x l = true → ((x :: l).map D.str).Pairwise (fun a b => dLe a b = true)
  | [], x, _ => List.pairwise_singleton _ _
  | y :: l, x, h => by
    unfold risingS at h
    rw [Bool.and_eq_true] at h
    have ih := rising_pw l y h.2
    have xy : dLe (.str x) (.str y) = true := by
      rw [str_le]
      have z := h.1
      rw [ltCps_eq] at z
      exact z
    rw [List.map_cons]
    refine List.pairwise_cons.mpr ⟨fun d hd => ?_, ih⟩
    rw [List.map_cons] at hd ih
    rcases List.mem_cons.mp hd with rfl | hd
    · exact xy
    · exact dLe_total.trans _ _ _ xy ((List.pairwise_cons.mp ih).1 d hd)
theorem sortedS_pw (l : List Str) (h : sortedS l = true) : (l.map D.str).Pairwise (fun a b => dLe a b = true) := by
  cases l with
  | nil => exact List.Pairwise.nil
  | cons x l => exact rising_pw l x h
theorem str_anti {x y : Str} (h1 : dLe (.str x) (.str y) = true) (h2 : dLe (.str y) (.str x) = true) : x = y := by
  rw [str_le] at h1 h2
  have a1 : ¬ y.cps.toList < x.cps.toList := by simpa using h1
  have a2 : ¬ x.cps.toList < y.cps.toList := by simpa using h2
  have e : x.cps.toList = y.cps.toList := by
    have := List.le_antisymm (as := x.cps.toList) (bs := y.cps.toList) (by simpa [List.not_lt] using a1) (by simpa [List.not_lt] using a2)
    exact this
  exact PySem.W.str_of_cps e
section
variable {m : Md}
theorem co_sortK : CallO m (fun xs H Q => ∃ (a : Addr) (kvs : List (Key × V)) (ks : List Str), xs = [.ref a] ∧ Rd H a (.dK kvs) ∧ kvs.map (·.1) = ks.map Sum.inr ∧ ks.length < 64 ∧ ∀ ys p, ys.Perm ks → sortedS ys = true → H p = none → Q (.ref p) (upd H p (.lst (ys.map V.str)))) sortK := fun vs ds d H Q r e k => by
  unfold sortK at e
  split at e
  · rename_i ks vls
    obtain ⟨v, rfl, rv⟩ := one_of r
    cases q : strsOf ks with
    | none => rw [q] at e; cases e
    | some zs =>
      rw [q] at e
      simp only [Option.bind_some] at e
      by_cases c : zs.length < 64
      · rw [if_pos c] at e; cases e
        cases rv with
        | dicN hq n e0 r1 r2 =>
          refine (notK r1 n ?_).elim
          rw [strs_eq q]
          simp [isK]
        | dicK hq rl =>
          refine ⟨_, _, zs, rfl, .inr ⟨_, hq⟩, keys_str q, c, fun ys p pm so hp => ?_⟩
          have g := Grow.new (o := .lst (ys.map V.str)) hp
          refine k p _ _ g hp upd_same ?_
          have e1 := strs_eq q
          rw [e1]
          have eq : srtD (zs.map D.str) = ys.map D.str := by
            unfold srtD
            refine List.Perm.eq_of_pairwise (le := fun a b => dLe a b = true) (fun x y hx hy h1 h2 => ?_) (isort_pw dLe_total _) (sortedS_pw ys so) ?_
            · rw [isort_eq dLe_total] at hx
              obtain ⟨x', _, rfl⟩ := List.mem_map.mp ((List.mergeSort_perm _ _).mem_iff.mp hx)
              obtain ⟨y', _, rfl⟩ := List.mem_map.mp hy
              rw [str_anti h1 h2]
            · rw [isort_eq dLe_total]
              exact (List.mergeSort_perm _ _).trans ((pm.map D.str).symm)
          rw [eq]
          have go : ∀ l : List Str, RepL m (upd H p (.lst (ys.map V.str))) (l.map V.str) (l.map D.str) := by
            intro l
            induction l with
            | nil => exact .nil
            | cons x l ih => exact .cons (.str x) ih
          exact go ys
      · rw [if_neg c] at e; cases e
  · cases e
end
end DL
end
section
namespace DL
open PySem PySem.Spec L2 DLS
open PyProof.Rows hiding St
/-! ### {k: v, ..} -/
inductive PairL (m : Md) (H : Hp) : List (V × V) → List (D × D) → Prop
  | nil : PairL m H [] []
  | cons {v : V × V} {vs : List (V × V)} {p : D × D} {ps : List (D × D)} : Rep m H v.1 p.1 → Rep m H v.2 p.2 → PairL m H vs ps → PairL m H (v :: vs) (p :: ps)
theorem PairL.st {m : Md} {H H' : Hp} (s : Stable H H') : ∀ {vs : List (V × V)} {ps : List (D × D)}, PairL m H vs ps → PairL m H' vs ps
  | _, _, .nil => .nil
  | _, _, .cons a b c => .cons (a.st s) (b.st s) (c.st s)
def pairsM : List (M D × M D) → M (List (D × D))
  | [] => pureM []
  | (fk, fv) :: r => bindM fk fun x => bindM fv fun y => bindM (pairsM r) fun ps => pureM ((x, y) :: ps)
/-- different keys, ints and texts -/
def difK : List D → Bool
  | [] => true
  | k :: ks => isK k && (ks.all fun j => !sameK k j) && difK ks
def dicM (fs : List (M D × M D)) : M D := bindM (pairsM fs) fun ps => if difK (ps.map (·.1)) = true ∧ ps.length ≤ 15 then pureM (.dic (ps.map (·.1)) (ps.map (·.2))) else stuckM
section
variable {X : Cx} {G : Gh} {W : WX}
def trOf (G : Gh) (W : WX) (p : M D × M D) : TE × TE := (fun σ H Q => ∃ h, dT (G.at h) W p.1 σ H Q, fun σ H Q => ∃ h, dT (G.at h) W p.2 σ H Q)
inductive DPs (X : Cx) (G : Gh) (W : WX) : List (Option Expr) → List Expr → List (M D × M D) → Prop
  | nil : DPs X G W [] [] []
  | cons {k v : Expr} {ks : List (Option Expr)} {vs : List Expr} {fk fv : M D} {fs : List (M D × M D)} : (∀ h, DE X (G.at h) W k fk) → (∀ h, DE X (G.at h) W v fv) → DPs X G W ks vs fs → DPs X G W (some k :: ks) (v :: vs) ((fk, fv) :: fs)
theorem dps_pps {pos : Pos} : ∀ {ks : List (Option Expr)} {vs : List Expr} {fs : List (M D × M D)}, DPs X G W ks vs fs → PPs X pos ks vs (fs.map (trOf G W))
  | _, _, _, .nil => pps_nil
  | _, _, _, .cons a b c => pps_cons ⟨fun pins s σ H Q I ⟨h, q⟩ => (a h).run pins s σ H Q I q⟩ ⟨fun pins s σ H Q I ⟨h, q⟩ => (b h).run pins s σ H Q I q⟩ (dps_pps c)
theorem pairs_read {h : Hp} : ∀ (fs : List (M D × M D)) {σ : L2.St} {H : Hp} {ρ : DL.Env} {Q : List (V × V) → Hp → Prop}, StOk (G.at h) σ H ρ → postG (G.at h) W σ H (pairsM fs ρ) (fun ps ρ' H' => StOk (G.at h) σ H' ρ' → ∀ vs, PairL G.m H' vs ps → Q vs H') → tPairs (fs.map (trOf G W)) σ H Q
  | [], σ, H, ρ, Q, k, q => q H Stable.rfl k k _ .nil
  | (fk, fv) :: fs, σ, H, ρ, Q, k, q => by
    refine ⟨h, ρ, k, q.bind.mono fun x ρ1 H1 _ s1 k1 q1 v r => ?_⟩
    refine ⟨h, ρ1, k1, q1.bind.mono fun y ρ2 H2 _ s2 k2 q2 w r2 => ?_⟩
    refine pairs_read fs k2 (q2.bind.mono fun ps ρ3 H3 _ s3 k3 q3 k3' vs rs => ?_)
    exact q3 H3 Stable.rfl k3 k3' _ (.cons ((r.st s2).st s3) (r2.st s3) rs)
theorem keys_of : ∀ {m : Md} {H : Hp} {vs : List (V × V)} {ps : List (D × D)}, PairL m H vs ps → (ps.all fun p => isK p.1) = true → ∃ kvs : List (Key × V), vs = kvs.map (fun kv => (kV kv.1, kv.2)) ∧ ps.map (·.1) = kvs.map (fun kv => keyD kv.1) ∧ RepL m H (kvs.map (·.2)) (ps.map (·.2)) ∧ kvs.length = ps.length
  | _, _, _, _, .nil, _ => ⟨[], rfl, rfl, .nil, rfl⟩
  | _, _, _, _, .cons (v := v) (p := p) a b c, h => by
    rw [List.all_cons, Bool.and_eq_true] at h
    obtain ⟨kvs, e1, e2, e3, e4⟩ := keys_of c h.2
    obtain ⟨k, h1, h2⟩ := key_rep a h.1
    refine ⟨(k, v.2) :: kvs, ?_, ?_, .cons b e3, by simp [e4]⟩
    · rw [e1, List.map_cons, ← h1]
    · rw [List.map_cons, List.map_cons, h2, e2]
theorem merge_dif : ∀ (kvs acc : List (Key × V)), (∀ k ∈ kvs.map (·.1), k ∉ acc.map (·.1)) → (kvs.map (·.1)).Nodup → mergeK acc kvs = acc ++ kvs
  | [], acc, _, _ => by simp [mergeK]
  | (k, v) :: kvs, acc, h, nd => by
    rw [List.map_cons] at nd h
    obtain ⟨n1, n2⟩ := List.nodup_cons.mp nd
    have e : putK acc k v = acc ++ [(k, v)] := by
      unfold putK
      rw [if_neg]
      intro z
      obtain ⟨p, hp, e⟩ := List.any_eq_true.mp z
      exact h k List.mem_cons_self (List.mem_map.mpr ⟨p, hp, of_decide_eq_true e⟩)
    show mergeK (putK acc k v) kvs = _
    rw [e, merge_dif kvs (acc ++ [(k, v)]) (fun j hj z => ?_) n2]
    · simp
    · rw [List.map_append, List.mem_append] at z
      rcases z with z | z
      · exact h j (List.mem_cons_of_mem _ hj) z
      · simp at z; subst z; exact n1 hj
theorem difK_nodup : ∀ {kvs : List (Key × V)}, difK (kvs.map fun kv => keyD kv.1) = true → (kvs.map (·.1)).Nodup
  | [], _ => List.nodup_nil
  | (k, v) :: kvs, h => by
    rw [List.map_cons, difK, Bool.and_eq_true, Bool.and_eq_true] at h
    obtain ⟨⟨_, h2⟩, h3⟩ := h
    rw [List.map_cons]
    refine List.nodup_cons.mpr ⟨fun z => ?_, difK_nodup h3⟩
    obtain ⟨p, hp, e⟩ := List.mem_map.mp z
    have := List.all_eq_true.mp h2 (keyD p.1) (List.mem_map.mpr ⟨p, hp, rfl⟩)
    rw [same_key, e] at this
    simp at this
theorem difK_all : ∀ {ds : List D}, difK ds = true → ds.all isK = true
  | [], _ => rfl
  | d :: ds, h => by
    rw [difK, Bool.and_eq_true, Bool.and_eq_true] at h
    rw [List.all_cons, h.1.1, difK_all h.2]; rfl
end
end DL
end
section
namespace DL
open PySem PySem.Spec L2 DLS
open PyProof.Rows hiding St
/-! ### the making of an instance: the body of __init__ -/
mutual
def noIns : D → Bool
  | .ins _ _ _ => false
  | .lst xs => noInsL xs
  | .tup xs => noInsL xs
  | .dic _ vs => noInsL vs
  | _ => true
def noInsL : List D → Bool
  | [] => true
  | d :: ds => noIns d && noInsL ds
end
mutual
theorem nk_noIns : ∀ k : NestedKey, noIns (nkD k) = true
  | .none => rfl
  | .num _ => rfl
  | .text _ => rfl
  | .tup ks => by rw [nkD, noIns]; exact nks_noIns ks
theorem nks_noIns : ∀ ks : List NestedKey, noInsL (nkDs ks) = true
  | [] => rfl
  | k :: ks => by rw [nkDs, noInsL, nk_noIns k, nks_noIns ks]; rfl
end
theorem nkD_noIns : ∀ kvs : List NEnt, noInsL (kvs.map fun p => nkD p.1) = true
  | [] => rfl
  | p :: l => by rw [List.map_cons, noInsL, nk_noIns, nkD_noIns l]; rfl
/-- all but x is kept -/
def GX (x : Addr) (H H' : Hp) : Prop := ∀ a o, a ≠ x → H a = some o → H' a = some o
theorem GX.rfl {x : Addr} {H : Hp} : GX x H H := fun _ _ _ h => h
theorem GX.trans {x : Addr} {H1 H2 H3 : Hp} (a : GX x H1 H2) (b : GX x H2 H3) : GX x H1 H3 := fun y o n h => b y o n (a y o n h)
section
variable {m : Md} {H H' : Hp} {x : Addr}
mutual
theorem Rep.gx (g : GX x H H') (hx : ∃ C dx fs, H x = some (.ins C dx fs)) : ∀ {d : D} {v : V}, noIns d = true → Rep m H v d → Rep m H' v d
  | .non, _, _, h => by cases h; exact .non
  | .bl b, _, _, h => by cases h; exact .bl b
  | .int i, _, _, h => by cases h; exact .int i
  | .str x, _, _, h => by cases h; exact .str x
  | .lst ds, _, n, h => by
    cases h with
    | lst q r =>
      refine .lst ?_ (RepL.gx g hx (by rw [noIns] at n; exact n) r)
      rcases q with ⟨o, e⟩ | q
      · exact .inl ⟨o, g _ _ (fun z => by obtain ⟨C, dx, fs, e2⟩ := hx; rw [z, e2] at e; cases e) e⟩
      · exact .inr q
  | .tup ds, _, n, h => by
    cases h with
    | tup q r =>
      refine .tup ?_ (RepL.gx g hx (by rw [noIns] at n; exact n) r)
      obtain ⟨C, dx, fs, e2⟩ := hx
      rcases q with (e | ⟨o, e⟩) | q
      · exact .inl (.inl (g _ _ (fun z => by rw [z, e2] at e; cases e) e))
      · exact .inl (.inr ⟨o, g _ _ (fun z => by rw [z, e2] at e; cases e) e⟩)
      · exact .inr q
  | .dic ks ds, _, n, h => by
    cases h with
    | dicN q nn e r1 r2 => exact .dicN (g _ _ (fun z => by obtain ⟨C, dx, fs, e2⟩ := hx; rw [z, e2] at q; cases q) q) nn e (RepL.gx g hx (by rw [e]; exact nkD_noIns _) r1) (RepL.gx g hx (by rw [noIns] at n; exact n) r2)
    | dicK q r => exact .dicK (g _ _ (fun z => by obtain ⟨C, dx, fs, e2⟩ := hx; rw [z, e2] at q; cases q) q) (RepL.gx g hx (by rw [noIns] at n; exact n) r)
  | .ins _ _ _, _, n, _ => by simp [noIns] at n
theorem RepL.gx (g : GX x H H') (hx : ∃ C dx fs, H x = some (.ins C dx fs)) : ∀ {ds : List D} {vs : List V}, noInsL ds = true → RepL m H vs ds → RepL m H' vs ds
  | [], _, _, h => by cases h; exact .nil
  | d :: ds, _, n, h => by
    rw [noInsL, Bool.and_eq_true] at n
    cases h with
    | cons a b => exact .cons (Rep.gx g hx n.1 a) (RepL.gx g hx n.2 b)
end
end
/-- the slots of __init__: the instance in slot 0, data without instances in the others -/
structure IOk (m : Md) (x C dx : Addr) (c : Str) (ns : List Str) (ds : List D) (σ : L2.St) (H : Hp) (ρ : DL.Env) : Prop where
  len : σ.length = ρ.length
  dat : ∀ (i : Nat) (d : D), 0 < i → ρ[i]? = some (.d d) → noIns d = true ∧ ∃ v, σ[i]? = some (some v) ∧ Rep m H v d
  pla : ∀ (i : Nat) (s : Sl), ρ[i]? = some s → plain s = true
  me : σ[0]? = some (some (.ref x))
  s0 : ρ[0]? = some (.d (.ins c ns ds))
  mg : m.mg c = some (.ref C)
  nof : noInsL ds = true
  ob : ∃ vs, H x = some (.ins C dx (ns.zip vs)) ∧ ns.length = vs.length ∧ RepL m H vs ds
section
variable {m : Md} {x C dx : Addr} {c : Str} {ns : List Str} {ds : List D} {σ : L2.St} {H H' : Hp} {ρ ρ' : DL.Env}
abbrev gi (m : Md) (H : Hp) : Gh := ⟨m, H, [], none⟩
theorem IOk.st (k : IOk m x C dx c ns ds σ H ρ) : StOk (gi m H) σ H ρ where
  len := k.len
  dat := fun i d h => by
    cases i with
    | zero =>
      rw [k.s0] at h; cases h
      obtain ⟨vs, h1, h2, h3⟩ := k.ob
      exact ⟨_, k.me, .ins k.mg h1 h2 h3⟩
    | succ i => exact (k.dat _ d (Nat.succ_pos i) h).2
  own := fun i xs h => by have := k.pla i _ h; simp [plain] at this
  sep := fun i j xs ys a _ h => by have := k.pla i _ h; simp [plain] at this
  prot := fun p hp => absurd hp List.not_mem_nil
  keep := fun a o h _ => h
  exn := fun i c h => by have := k.pla i _ h; simp [plain] at this
theorem IOk.keeps (k' : StOk (gi m H) σ H' ρ') : Grow H H' := fun a o e => k'.keep a o e fun p hp => absurd hp List.not_mem_nil
end
/-- slot 0 holds the instance, the others hold plain data without instances -/
def iniC (ρ : DL.Env) : Bool := ρ.all plain && ((ρ.drop 1).all fun s => match s with
  | .d d => noIns d
  | _ => true) && match (ρ[0]? : Option Sl) with
  | some (.d (.ins _ _ ds)) => noInsL ds
  | _ => false
theorem iniC_get {ρ : DL.Env} (h : iniC ρ = true) : (∀ (i : Nat) (s : Sl), ρ[i]? = some s → plain s = true) ∧ (∀ (i : Nat) (d : D), 0 < i → ρ[i]? = some (.d d) → noIns d = true) ∧ ∃ c ns ds, ρ[0]? = some (.d (.ins c ns ds)) ∧ noInsL ds = true := by
  unfold iniC at h
  rw [Bool.and_eq_true, Bool.and_eq_true] at h
  obtain ⟨⟨h1, h2⟩, h3⟩ := h
  refine ⟨fun i s e => List.all_eq_true.mp h1 s (List.mem_of_getElem? e), fun i d hi e => ?_, ?_⟩
  · obtain ⟨i, rfl⟩ : ∃ j, i = j + 1 := ⟨i - 1, by omega⟩
    have q : (ρ.drop 1)[i]? = some (.d d) := by rw [List.getElem?_drop, Nat.add_comm]; exact e
    exact List.all_eq_true.mp h2 _ (List.mem_of_getElem? q)
  · cases e : ρ[0]? with
    | none => rw [e] at h3; cases h3
    | some s =>
      rw [e] at h3
      cases s with
      | d d => cases d with
        | ins c ns ds => exact ⟨c, ns, ds, rfl, h3⟩
        | _ => cases h3
      | _ => cases h3
section
variable {m : Md} {x C dx : Addr} {c : Str} {ns : List Str} {ds : List D} {σ : L2.St} {H H' : Hp} {ρ ρ' : DL.Env} {W : WX}
/-- behind an expression: the same slots, a larger heap -/
theorem IOk.grow (k : IOk m x C dx c ns ds σ H ρ) (k' : StOk (gi m H) σ H' ρ') (h : iniC ρ' = true) : ∃ c' ns' ds', IOk m x C dx c' ns' ds' σ H' ρ' := by
  obtain ⟨h1, h2, c', ns', ds', h3, h4⟩ := iniC_get h
  obtain ⟨vs, g1, _, _⟩ := k.ob
  have kp := IOk.keeps k'
  obtain ⟨v, e1, e2⟩ := k'.dat 0 _ h3
  rw [k.me] at e1; cases e1
  cases e2 with
  | ins a1 a2 a3 a4 =>
    have z := (kp _ _ g1).symm.trans a2
    injection z with z
    injection z with z1 z2 z3
    subst z1 z2
    exact ⟨c', ns', ds', k'.len, fun i d hi e => ⟨h2 i d hi e, k'.dat i d e⟩, h1, k.me, h3, a1, h4, ⟨_, a2, a3, a4⟩⟩
/-- what becomes of the state -/
def iPost (m : Md) (W : WX) (x C dx : Addr) (H : Hp) (r : Res Flow) (E : Ends) : Prop := match r with
  | .ok .nx ρ => ∀ c ns ds σ' H', GX x H H' → IOk m x C dx c ns ds σ' H' ρ → E.nx σ' H'
  | .exc e _ => ∀ σ' C' H', m.mg e = some (.ref C') → GX x H H' → W (.ref C') none σ' H'
  | _ => False
theorem iPost.from {r : Res Flow} {E : Ends} (g : GX x H H') (h : iPost m W x C dx H r E) : iPost m W x C dx H' r E := by
  cases r with
  | ok f ρ => cases f with
    | nx => exact fun c ns ds σ2 H2 g2 k => h c ns ds σ2 H2 (g.trans g2) k
    | _ => exact h.elim
  | exc e ρ => exact fun σ2 C2 H2 e2 g2 => h σ2 C2 H2 e2 (g.trans g2)
  | stuck => exact h.elim
def inT (m : Md) (W : WX) (f : MS) : TS := fun E σ H => ∃ x C dx c ns ds ρ, IOk m x C dx c ns ds σ H ρ ∧ iPost m W x C dx H (f ρ) E
end
def IS (X : Cx) (m : Md) (W : WX) (s : Stmt) (f : MS) : Prop := PS X s (inT m W f)
def ISs (X : Cx) (m : Md) (W : WX) (s : List Stmt) (f : MS) : Prop := PSs X s (inT m W f)
/-- an expression at the slots of __init__: what it gives, then k -/
def atM {α : Type} (f : M α) (k : α → MS) : MS := fun ρ => match f ρ with
  | .ok a ρ' => if iniC ρ' = true then k a ρ' else .stuck
  | .exc c ρ' => .exc c ρ'
  | .stuck => .stuck
section
variable {X : Cx} {m : Md} {W : WX} {x C dx : Addr} {c : Str} {ns : List Str} {ds : List D} {σ : L2.St} {H : Hp} {ρ : DL.Env} {E : Ends} {α : Type}
theorem atM_run {f : M α} {k : α → MS} (i : IOk m x C dx c ns ds σ H ρ) (q : iPost m W x C dx H (atM f k ρ) E) :
    postG (gi m H) W σ H (f ρ) fun a ρ' H' => GX x H H' ∧ (∃ c' ns' ds', IOk m x C dx c' ns' ds' σ H' ρ') ∧ iPost m W x C dx H (k a ρ') E := by
  unfold atM at q
  cases e : f ρ with
  | ok a ρ' =>
    rw [e] at q
    by_cases h : iniC ρ' = true
    · simp only [h, if_true] at q
      intro H' s' k'
      have kp := IOk.keeps k'
      have g : GX x H H' := fun b o _ z => kp b o z
      exact ⟨g, i.grow k' h, q⟩
    · simp only [h, if_false] at q; exact q.elim
  | exc e2 ρ' =>
    rw [e] at q
    intro C' H' he s' k'
    have kp := IOk.keeps k'
    exact q σ C' H' he fun b o _ z => kp b o z
  | stuck => rw [e] at q; exact q.elim
theorem is_cons {s : Stmt} {r : List Stmt} {f g : MS} (h1 : IS X m W s f) (h2 : ISs X m W r g) : ISs X m W (s :: r) (seqM f g) := pss_imp (pss_cons h1 h2) fun E σ H ⟨x, C, dx, c, ns, ds, ρ, k, q⟩ => by
  refine ⟨x, C, dx, c, ns, ds, ρ, k, ?_⟩
  unfold seqM at q
  cases e : f ρ with
  | ok fl ρ' =>
    rw [e] at q
    cases fl with
    | nx => exact fun c' ns' ds' σ' H' g' k' => ⟨x, C, dx, c', ns', ds', ρ', k', q.from g'⟩
    | _ => exact q.elim
  | exc e2 ρ' => rw [e] at q; exact q
  | stuck => rw [e] at q; exact q.elim
/-- if test: raise X(..) -/
def ifRaise (f : M Bool) (e : Str) : MS := atM f fun b => if b = true then raiseM e else skipM
theorem is_if {t : Expr} {r : Stmt} {f : M Bool} {e : Str} {pos : Pos} (ht : ∀ h, DT X (gi m h) W t f) (hr : ∀ h, DS X (gi m h) W .f r (raiseM e)) : IS X m W (.If t [r] [] pos) (ifRaise f e) := by
  refine ⟨fun pins s σ H D I ⟨x, C, dx, c, ns, ds, ρ, k, q⟩ => ?_⟩
  refine (ps_if (ht H) (pss_one (hr H)) pss_nil).run pins s σ H D I ⟨ρ, k.st, (atM_run k q).mono fun b ρ' H' _ s' k' ⟨g, ⟨c', ns', ds', k2⟩, q2⟩ => ?_⟩
  cases b with
  | true =>
    rw [if_pos rfl]
    exact ⟨ρ', k', fun σ2 C2 H2 e2 s2 k3 => q2 σ2 C2 H2 e2 fun b o _ z => IOk.keeps k3 b o z⟩
  | false => rw [if_neg (by decide)]; exact q2 c' ns' ds' σ H' g k2
end
end DL
end
section
namespace DL
open PySem PySem.Spec L2 DLS
open PyProof.Rows hiding St
theorem putF_new {f : Str} {v : V} : ∀ {ns : List Str} {vs : List V}, ns.length = vs.length → f ∉ ns → putF f v (ns.zip vs) = (ns ++ [f]).zip (vs ++ [v])
  | [], [], _, _ => rfl
  | [], _ :: _, h, _ => by simp at h
  | _ :: _, [], h, _ => by simp at h
  | n :: ns, w :: vs, h, nf => by
    have ne : ¬ n = f := fun z => nf (by rw [z]; exact List.mem_cons_self)
    rw [List.zip_cons_cons, putF, if_neg ne, putF_new (by simpa using h) fun z => nf (List.mem_cons_of_mem _ z)]; rfl
def setFM (c f : Str) (fe : M D) : MS := atM fe fun d ρ => match (ρ[0]? : Option Sl) with
  | some (.d (.ins c' ns ds)) => if c' = c ∧ f ∉ ns ∧ noIns d = true ∧ ns.length < 1000 then .ok .nx (ρ.set 0 (.d (.ins c' (ns ++ [f]) (ds ++ [d])))) else .stuck
  | _ => .stuck
section
variable {X : Cx} {m : Md} {W : WX} {x C dx : Addr} {c : Str} {ns : List Str} {ds : List D} {σ : L2.St} {H : Hp} {ρ : DL.Env} {E : Ends}
theorem noInsL_app : ∀ {ds : List D} {d : D}, noInsL ds = true → noIns d = true → noInsL (ds ++ [d]) = true
  | [], d, _, h => by simp [noInsL, h]
  | e :: ds, d, h, h2 => by
    rw [noInsL, Bool.and_eq_true] at h
    rw [List.cons_append, noInsL, h.1, noInsL_app h.2 h2]; rfl
/-- the instance has another field -/
theorem IOk.put (k : IOk m x C dx c ns ds σ H ρ) {f : Str} {v : V} {d : D} (nf : f ∉ ns) (hn : noIns d = true) (r : Rep m H v d) : ∃ vs, H x = some (.ins C dx (ns.zip vs)) ∧ ns.length = vs.length ∧
    IOk m x C dx c (ns ++ [f]) (ds ++ [d]) σ (upd H x (.ins C dx (putF f v (ns.zip vs)))) (ρ.set 0 (.d (.ins c (ns ++ [f]) (ds ++ [d])))) ∧ GX x H (upd H x (.ins C dx (putF f v (ns.zip vs)))) := by
  obtain ⟨vs, g1, g2, g3⟩ := k.ob
  have gx : GX x H (upd H x (.ins C dx (putF f v (ns.zip vs)))) := fun b o ne e => by rw [upd_ne ne]; exact e
  have hx : ∃ C dx fs, H x = some (.ins C dx fs) := ⟨_, _, _, g1⟩
  have h0 : 0 < ρ.length := (List.getElem?_eq_some_iff.mp k.s0).1
  refine ⟨vs, g1, g2, ⟨by rw [List.length_set]; exact k.len, fun i e hi he => ?_, fun i s e => ?_, k.me, by rw [List.getElem?_set_self h0], k.mg, noInsL_app k.nof hn, ?_⟩, gx⟩
  · rw [List.getElem?_set_ne (by omega)] at he
    obtain ⟨n1, w, e1, e2⟩ := k.dat i e hi he
    exact ⟨n1, w, e1, e2.gx gx hx n1⟩
  · by_cases z : i = 0
    · subst z
      rw [List.getElem?_set_self h0] at e; cases e; rfl
    · rw [List.getElem?_set_ne (fun y => z y.symm)] at e
      exact k.pla i s e
  · refine ⟨vs ++ [v], by rw [upd_same, putF_new g2 nf], by simp [g2], ?_⟩
    exact (RepL.gx gx hx k.nof g3).append (.cons (r.gx gx hx hn) .nil)
theorem is_setF {f s0 : Str} {fs : List Str} {value : Expr} {fe : M D} {p0 p1 pos : Pos} (hm0 : m = ⟨X.K, X.mg, X.w⟩) (T : ClsD X.K X.mg c fs) (hf : f ∈ fs) (hv : ∀ h, DE X (gi m h) W value fe) (hN : X.N[0]? = some s0)
    (hvis : Vis X.env.scope s0 := by first | exact .inl rfl | exact .inr (.inl rfl) | exact .inr (.inr rfl)) (hd : (s0 == ("__debug__" : Str)) = false := by decide) (hcd : (s0 == ("__classdict__" : Str)) = false := by decide)
    (hs : swapsWith value (some (.Attribute (.Name s0 p0) f p1)) pos.line X.env = pure false := by rfl) : IS X m W (.Assign [.Attribute (.Name s0 p0) f p1] value pos) (setFM c f fe) := by
  obtain ⟨C0, t1, t2, t3⟩ := T.ex
  refine ⟨fun pins s σ H D I ⟨x, C, dx, c', ns, ds, ρ, k, q⟩ => ?_⟩
  refine (ps_fld (pe_var (i := 0) hN hvis hd hcd) (hv H) hs).run pins s σ H D I ⟨ρ, k.st, (atM_run k q).mono fun d ρ' H' _ s' k' ⟨g, ⟨c1, ns1, ds1, k2⟩, q2⟩ v r => ?_⟩
  refine ⟨_, k2.me, ?_⟩
  rw [k2.s0] at q2
  dsimp only at q2
  by_cases cc : c1 = c ∧ f ∉ ns1 ∧ noIns d = true ∧ ns1.length < 1000
  · rw [if_pos cc] at q2
    obtain ⟨e1, e2, e3, e4⟩ := cc
    subst e1
    obtain ⟨vs, g1, g2, k3, gx⟩ := k2.put e2 e3 r
    have mg : m.mg c1 = some (.ref C) := k2.mg
    rw [hm0] at mg
    have mg : X.mg c1 = some (.ref C) := mg
    rw [t1] at mg; cases mg
    exact ⟨x, _, dx, _, rfl, g1, t2, t3 f hf, by rw [List.length_zip, ← g2, Nat.min_self]; exact e4, q2 _ _ _ σ _ (g.trans gx) k3⟩
  · rw [if_neg cc] at q2; exact q2.elim
/-- for t in e: if test: raise X(..) -/
def forIfGo (i : Nat) (f : M Bool) (e : Str) : List D → MS
  | [] => skipM
  | d :: ds => fun ρ => if noIns d = true then (match ifRaise f e (ρ.set i (.d d)) with
    | .ok .nx ρ' => forIfGo i f e ds ρ'
    | r => r) else .stuck
def forIfM (i : Nat) (fi : M (List D)) (f : M Bool) (e : Str) : MS := atM fi fun ds => forIfGo i f e ds
theorem IOk.slot (k : IOk m x C dx c ns ds σ H ρ) {i : Nat} {v : V} {d : D} (hi : 0 < i) (hn : noIns d = true) (r : Rep m H v d) : IOk m x C dx c ns ds (σ.set i (some v)) H (ρ.set i (.d d)) := by
  refine ⟨by simp [k.len], fun j e hj he => ?_, fun j s e => ?_, by rw [List.getElem?_set_ne (by omega)]; exact k.me, by rw [List.getElem?_set_ne (by omega)]; exact k.s0, k.mg, k.nof, k.ob⟩
  · by_cases z : i = j
    · subst z
      have hl : i < ρ.length := by
        have := (List.getElem?_eq_some_iff.mp he).1
        simpa using this
      rw [List.getElem?_set_self hl] at he; cases he
      exact ⟨hn, v, by rw [List.getElem?_set_self (by rw [k.len]; exact hl)], r⟩
    · rw [List.getElem?_set_ne z] at he
      obtain ⟨n1, w, e1, e2⟩ := k.dat j e hj he
      exact ⟨n1, w, by rw [List.getElem?_set_ne z]; exact e1, e2⟩
  · by_cases z : i = j
    · subst z
      have hl : i < ρ.length := by
        have := (List.getElem?_eq_some_iff.mp e).1
        simpa using this
      rw [List.getElem?_set_self hl] at e; cases e; rfl
    · rw [List.getElem?_set_ne z] at e; exact k.pla j s e
end
end DL
end
section
namespace DL
open PySem PySem.Spec L2 DLS
open PyProof.Rows hiding St
section
variable {X : Cx} {m : Md} {W : WX} {x C dx : Addr} {c : Str} {ns : List Str} {ds : List D} {σ : L2.St} {H : Hp} {ρ : DL.Env} {E : Ends}
theorem is_forIf (i : Nat) {y : Str} {iter t : Expr} {r : Stmt} {fi : M (List D)} {f : M Bool} {e : Str} {p1 p2 pos : Pos} (hi0 : 0 < i) (hp : PassesOwn (model X.prog X.w) X.A X.env X.xe) (hc : X.calm = true) (hN : X.N.Nodup) (hy : X.N[i]? = some y) (hl : Loc X.env.scope y)
    (hi : ∀ h, DI X (gi m h) W (.Name y p1) iter fi) (ht : ∀ h, DT X (gi m h) W t f) (hr : ∀ h, DS X (gi m h) W .f r (raiseM e)) (hfn : X.fn y = true ∨ X.env.scope.names.lookup y = some .local := by first | exact .inl rfl | exact .inr rfl | assumption)
    (hs : ∀ v, foldedSetIterable iter X.env v = pure v := by intro _; rfl) : IS X m W (.For (.Name y p1) iter [.If t [r] [] p2] [] pos) (forIfM i fi f e) := by
  have htE : PT X t (fun σ H Q => ∃ h, tT (gi m h) W f σ H Q) := ⟨fun pins s σ H Q I ⟨h, q⟩ => (ht h).run pins s σ H Q I q⟩
  have hrE : PS X r (fun E σ H => ∃ h, sT (gi m h) W .f (raiseM e) E σ H) := ⟨fun pins s σ H Q I ⟨h, q⟩ => (hr h).run pins s σ H Q I q⟩
  refine ⟨fun pins s σ H D I ⟨x, C, dx, c, ns, ds, ρ, k, q⟩ => ?_⟩
  refine (ps_for hp hc (hi H) (pg_name (i := i) hN hy hl hfn) (pss_one (ps_if htE (pss_one hrE) pss_nil)) hs).run pins s σ H D I ⟨ρ, k.st, (atM_run k q).mono fun xs ρ1 H1 _ s1 k1 ⟨g, ⟨c1, ns1, ds1, k2⟩, q2⟩ J io => ?_⟩
  refine ⟨fun j n σ' H' => n = xs.length - j ∧ j ≤ xs.length ∧ Stable H1 H' ∧ ∃ c ns ds ρ', IOk m x C dx c ns ds σ' H' ρ' ∧ iPost m W x C dx H' (forIfGo i f e (xs.drop j) ρ') D, ⟨_, rfl, Nat.zero_le _, Stable.rfl, c1, ns1, ds1, ρ1, k2, q2.from g⟩, ?_⟩
  rintro j n σ' H' ⟨rfl, hj, st, c2, ns2, ds2, ρ', k', q'⟩
  by_cases lt : j < xs.length
  · refine .inr ⟨io.go j H' st lt, fun σ2 H2 => Stable H1 H2 ∧ ∃ c ns ds ρ2, IOk m x C dx c ns ds σ2 H2 ρ2 ∧ iPost m W x C dx H2 (forIfGo i f e (xs.drop (j + 1)) ρ2) D, fun σ2 H2 ⟨w1, w2⟩ => ⟨xs.length - (j + 1), by omega, rfl, lt, w1, w2⟩, fun v H2 z => ?_⟩
    obtain ⟨e2, d, hd, rd⟩ := io.yld j H' v H2 st lt z
    subst e2
    have ed : xs.drop j = d :: xs.drop (j + 1) := by
      rw [List.drop_eq_getElem_cons lt]
      rw [List.getElem?_eq_getElem lt] at hd
      injection hd with hd
      rw [hd]
    rw [ed] at q'
    unfold forIfGo at q'
    by_cases nn : noIns d = true
    · simp only [nn, if_true] at q'
      have k3 := k'.slot hi0 nn rd
      have q3 : iPost m W x C dx H2 (match ifRaise f e (ρ'.set i (.d d)) with | .ok .nx ρ' => forIfGo i f e (xs.drop (j + 1)) ρ' | r => r) D := q'
      show _
      unfold ifRaise atM at q3
      refine ⟨H2, ρ'.set i (.d d), k3.st, ?_⟩
      cases eb : f (ρ'.set i (.d d)) with
      | ok b ρ4 =>
        rw [eb] at q3
        by_cases ic : iniC ρ4 = true
        · simp only [ic, if_true] at q3
          intro H4 s4 k4
          have kp := IOk.keeps k4
          obtain ⟨c5, ns5, ds5, k5⟩ := k3.grow k4 ic
          have g4 : GX x H2 H4 := fun a o _ z => kp a o z
          cases b with
          | true =>
            simp only [if_true] at q3 ⊢
            exact ⟨H2, ρ4, k4, fun σ5 C5 H5 e5 s5 k6 => q3 σ5 C5 H5 e5 fun a o _ z => IOk.keeps k6 a o z⟩
          | false =>
            simp only [Bool.false_eq_true, if_false] at q3 ⊢
            exact ⟨st.trans kp.stable, c5, ns5, ds5, ρ4, k5, q3.from g4⟩
        · simp only [ic, if_false] at q3; exact q3.elim
      | exc c6 ρ4 =>
        rw [eb] at q3
        intro C4 H4 h4 s4 k4
        exact q3 _ C4 H4 h4 fun a o _ z => IOk.keeps k4 a o z
      | stuck => rw [eb] at q3; exact q3.elim
    · simp only [nn, if_false] at q'; exact q'.elim
  · have hj2 : xs.length ≤ j := by omega
    rw [List.drop_of_length_le hj2] at q'
    exact .inl ⟨io.stop j H' st hj2, q' c2 ns2 ds2 σ' H' GX.rfl k'⟩
end
end DL
end
section
namespace DL
open PySem PySem.Spec L2 DLS
open PyProof.Rows hiding St
/-! ### the dict of an instance that __init__ fills -/
def sFz (t : TS) : TS := fun D σ H => t ⟨fun σ' H' => ∃ a u, H' a = some u ∧ Mut (some u) ∧ ∀ o, D.nx σ' (upd H' a (.frz o u)), D.rt, D.bk, D.ct⟩ σ H
theorem ps_lock {X : Cx} {st : Stmt} {t : TS} (h : PS X st t) : PS X st (sFz t) := ⟨fun pins s σ H D I q => thn (h.run pins s σ H _ I q) fun f s1 w => by
  cases f with
  | next =>
    obtain ⟨σ', H', I', a, u, hu, mu, q⟩ := w
    obtain ⟨od, I2⟩ := I'.lock hu mu
    exact ⟨σ', _, I2, q od⟩
  | brk => exact w
  | cont => exact w
  | ret u => exact w⟩
/-- slot 0 is closed, the others hold data -/
def kC (ρ : DL.Env) : Bool := ρ.all plain && match (ρ[0]? : Option Sl) with
  | some (.d _) => false
  | _ => true
theorem kC_pl {ρ : DL.Env} (h : kC ρ = true) (i : Nat) (s : Sl) (e : ρ[i]? = some s) : plain s = true := by
  unfold kC at h
  rw [Bool.and_eq_true] at h
  exact List.all_eq_true.mp h.1 s (List.mem_of_getElem? e)
section
variable {m : Md} {G : Gh} {x p C dx : Addr} {c f : Str} {ns : List Str} {ds : List D} {acc : List (D × D)} {σ σ' : L2.St} {H0 H H' : Hp} {ρ ρ' : DL.Env} {W : WX}
theorem rebase (k : StOk G σ H ρ) (h : ∀ (i : Nat) (s : Sl), ρ[i]? = some s → plain s = true) (st : Stable H H') : StOk (gi G.m H') σ H' ρ where
  len := k.len
  dat := fun i d e => by
    obtain ⟨v, e1, e2⟩ := k.dat i d e
    exact ⟨v, e1, e2.st st⟩
  own := fun i xs e => by have := h i _ e; simp [plain] at this
  sep := fun i j xs ys a _ e => by have := h i _ e; simp [plain] at this
  prot := fun p hp => absurd hp List.not_mem_nil
  keep := fun a o e _ => e
  exn := fun i c e => by have := h i _ e; simp [plain] at this
structure KOk (m : Md) (x p C dx : Addr) (c f : Str) (ns : List Str) (ds : List D) (H0 : Hp) (σ : L2.St) (H : Hp) (ρ : DL.Env) (acc : List (D × D)) : Prop where
  st : StOk (gi m H) σ H ρ
  pl : kC ρ = true
  me : σ[0]? = some (some (.ref x))
  mg : m.mg c = some (.ref C)
  ob : ∃ vs, H x = some (.ins C dx ((ns ++ [f]).zip (vs ++ [.ref p]))) ∧ ns.length = vs.length ∧ RepL m H vs ds
  di : ∃ kvs, H p = some (.dK kvs) ∧ acc.map (·.1) = kvs.map (fun kv => keyD kv.1) ∧ RepL m H (kvs.map (·.2)) (acc.map (·.2))
  gx : GX x H0 H
  hp : H0 p = none
theorem KOk.next (k : KOk m x p C dx c f ns ds H0 σ H ρ acc) (k' : StOk (gi m H) σ' H' ρ') (h : kC ρ' = true) (h0 : σ'[0]? = σ[0]?) : KOk m x p C dx c f ns ds H0 σ' H' ρ' acc := by
  have kp := IOk.keeps k'
  obtain ⟨vs, a1, a2, a3⟩ := k.ob
  obtain ⟨kvs, b1, b2, b3⟩ := k.di
  exact ⟨rebase k' (kC_pl h) Stable.rfl, h, by rw [h0]; exact k.me, k.mg, ⟨vs, kp _ _ a1, a2, a3.st kp.stable⟩, ⟨kvs, kp _ _ b1, b2, b3.st kp.stable⟩, k.gx.trans fun a o _ e => kp a o e, k.hp⟩
theorem KOk.put (k : KOk m x p C dx c f ns ds H0 σ H ρ acc) {kk : Key} {v : V} {d : D} (hn : (acc.all fun q => !sameK (keyD kk) q.1) = true) (hl : acc.length < 1000) (r : Rep m H v d) :
    ∃ kvs, H p = some (.dK kvs) ∧ kvs.length = acc.length ∧ KOk m x p C dx c f ns ds H0 σ (upd H p (.dK (putK kvs kk v))) ρ (acc ++ [(keyD kk, d)]) := by
  obtain ⟨vs, a1, a2, a3⟩ := k.ob
  obtain ⟨kvs, b1, b2, b3⟩ := k.di
  have ll : kvs.length = acc.length := by
    have := congrArg List.length b2
    simpa using this.symm
  have ep : putK kvs kk v = kvs ++ [(kk, v)] := by
    unfold putK
    rw [if_neg]
    intro z
    obtain ⟨q, hq, e⟩ := List.any_eq_true.mp z
    have e : q.1 = kk := of_decide_eq_true e
    have : keyD kk ∈ acc.map (·.1) := by rw [b2]; exact List.mem_map.mpr ⟨q, hq, by rw [e]⟩
    obtain ⟨w, hw, e2⟩ := List.mem_map.mp this
    have := List.all_eq_true.mp hn w hw
    rw [e2, same_key] at this
    simp at this
  have st : Stable H (upd H p (.dK (putK kvs kk v))) := Stable.upd b1 id
  have nx : x ≠ p := fun z => by rw [z, b1] at a1; cases a1
  refine ⟨kvs, b1, ll, rebase k.st (kC_pl k.pl) st, k.pl, k.me, k.mg, ⟨vs, by rw [upd_ne nx]; exact a1, a2, a3.st st⟩, ⟨_, upd_same, ?_, ?_⟩, fun a o na e => ?_, k.hp⟩
  · rw [ep, List.map_append, List.map_append, b2]; rfl
  · have z := (b3.st st).append (RepL.cons (r.st st) .nil)
    have e1 : (putK kvs kk v).map (·.2) = kvs.map (·.2) ++ [v] := by rw [ep, List.map_append]; rfl
    rw [e1, List.map_append]
    exact z
  · have np : a ≠ p := fun z => by rw [z, k.hp] at e; cases e
    rw [upd_ne np]
    exact k.gx a o na e
end
/-- keys of a list of pairs -/
def dicOf (acc : List (D × D)) : D := .dic (acc.map (·.1)) (acc.map (·.2))
def kStep {α β : Type} (f : M α) (k : α → M β) : M β := fun ρ => match f ρ with
  | .ok a ρ' => if kC ρ' = true then k a ρ' else .stuck
  | .exc c ρ' => .exc c ρ'
  | .stuck => .stuck
def kinBody (t : TgF) (f1 fk f2 : M D) (acc : List (D × D)) : M (List (D × D)) := kStep f1 fun d1 ρ => match t d1 ρ with
  | some ρ1 => if kC ρ1 = true then kStep f2 (fun d2 => kStep fk fun dk => if isK dk = true ∧ (acc.all fun q => !sameK dk q.1) = true ∧ acc.length < 1000 then pureM (acc ++ [(dk, d2)]) else stuckM) ρ1 else .stuck
  | none => .stuck
def kinGo (iy : Nat) (t : TgF) (f1 fk f2 : M D) : List D → List (D × D) → M (List (D × D))
  | [], acc => pureM acc
  | d :: ds, acc => fun ρ => if kC (ρ.set iy (.d d)) = true then bindM (kinBody t f1 fk f2 acc) (fun acc' => kinGo iy t f1 fk f2 ds acc') (ρ.set iy (.d d)) else .stuck
def kinEnd (c f : Str) (ns : List Str) (ds : List D) : Res (List (D × D)) → Res Flow
  | .ok acc ρ => if iniC (ρ.set 0 (.d (.ins c (ns ++ [f]) (ds ++ [dicOf acc])))) = true ∧ ρ ≠ [] then .ok .nx (ρ.set 0 (.d (.ins c (ns ++ [f]) (ds ++ [dicOf acc])))) else .stuck
  | .exc e ρ => .exc e ρ
  | .stuck => .stuck
/-- self.f = {} ; for y in it: t = e1 ; self.f[k] = e2 -/
def kinM (c f : Str) (iy : Nat) (fi : M (List D)) (t : TgF) (f1 fk f2 : M D) : MS := fun ρ => match (ρ[0]? : Option Sl) with
  | some (.d (.ins c' ns ds)) => if c' = c ∧ f ∉ ns ∧ ns.length < 1000 ∧ kC (ρ.set 0 .no) = true then kinEnd c' f ns ds (kStep fi (fun xs => kinGo iy t f1 fk f2 xs []) (ρ.set 0 .no)) else .stuck
  | _ => .stuck
section
variable {m : Md} {G : Gh} {x p C dx : Addr} {c f : Str} {ns : List Str} {ds : List D} {acc : List (D × D)} {σ σ' : L2.St} {H0 H H' : Hp} {ρ ρ' : DL.Env} {W : WX} {E : Ends} {α β : Type}
/-- behind the loop -/
theorem KOk.done (k : KOk m x p C dx c f ns ds H0 σ H ρ acc) (hf : f ∉ ns) (q : iPost m W x C dx H0 (kinEnd c f ns ds (.ok acc ρ)) E) : ∃ a u, H a = some u ∧ Mut (some u) ∧ ∀ o, E.nx σ (upd H a (.frz o u)) := by
  obtain ⟨vs, a1, a2, a3⟩ := k.ob
  obtain ⟨kvs, b1, b2, b3⟩ := k.di
  refine ⟨p, _, b1, trivial, fun o => ?_⟩
  unfold kinEnd at q
  dsimp only at q
  by_cases cc : iniC (ρ.set 0 (.d (.ins c (ns ++ [f]) (ds ++ [dicOf acc])))) = true ∧ ρ ≠ []
  · rw [if_pos cc] at q
    obtain ⟨cc, ne⟩ := cc
    have h0 : 0 < ρ.length := List.length_pos_iff.mpr ne
    obtain ⟨i1, i2, c3, ns3, ds3, i3, i4⟩ := iniC_get cc
    rw [List.getElem?_set_self h0] at i3; cases i3
    have st : Stable H (upd H p (.frz o (.dK kvs))) := Stable.upd b1 id
    have nx : x ≠ p := fun z => by rw [z, b1] at a1; cases a1
    refine q _ _ _ σ _ ?_ ⟨?_, ?_, i1, k.me, by rw [List.getElem?_set_self h0], k.mg, i4, ⟨vs ++ [.ref p], by rw [upd_ne nx]; exact a1, by simp [a2], ?_⟩⟩
    · intro a o2 na e
      have np : a ≠ p := fun z => by rw [z, k.hp] at e; cases e
      rw [upd_ne np]; exact k.gx a o2 na e
    · rw [List.length_set]; exact k.st.len
    · intro i d hi e
      refine ⟨i2 i d hi e, ?_⟩
      rw [List.getElem?_set_ne (by omega)] at e
      obtain ⟨v, e1, e2⟩ := k.st.dat i d e
      exact ⟨v, e1, e2.st st⟩
    · refine (a3.st st).append (.cons ?_ .nil)
      unfold dicOf
      rw [b2]
      exact .dicK upd_same (b3.st st)
  · rw [if_neg cc] at q; exact q.elim
theorem kStep_run {g : M α} {k : α → M β} {fin : Res β → Res Flow} (hx : ∀ e ρ, fin (.exc e ρ) = .exc e ρ) (hs : fin .stuck = .stuck) (K : KOk m x p C dx c f ns ds H0 σ H ρ acc) (q : iPost m W x C dx H0 (fin (kStep g k ρ)) E) :
    postG (gi m H) W σ H (g ρ) fun a ρ' H' => KOk m x p C dx c f ns ds H0 σ H' ρ' acc ∧ iPost m W x C dx H0 (fin (k a ρ')) E := by
  unfold kStep at q
  cases e : g ρ with
  | ok a ρ' =>
    rw [e] at q
    by_cases h : kC ρ' = true
    · simp only [h, if_true] at q
      exact fun H' s' k' => ⟨K.next k' h rfl, q⟩
    · dsimp only at q; rw [if_neg h, hs] at q; exact q.elim
  | exc e2 ρ' =>
    rw [e] at q
    dsimp only at q
    rw [hx] at q
    intro C' H' he s' k'
    exact q σ C' H' he (K.gx.trans fun a o _ z => IOk.keeps k' a o z)
  | stuck => rw [e] at q; dsimp only at q; rw [hs] at q; exact q.elim
end
end DL
end
section
namespace DL
open PySem PySem.Spec L2 DLS
open PyProof.Rows hiding St
theorem lookup_last {f : Str} {v : V} : ∀ {ns : List Str} {vs : List V}, ns.length = vs.length → f ∉ ns → ((ns ++ [f]).zip (vs ++ [v])).lookup f = some v
  | [], [], _, _ => by simp [List.lookup]
  | [], _ :: _, h, _ => by simp at h
  | _ :: _, [], h, _ => by simp at h
  | n :: ns, w :: vs, h, nf => by
    have ne : ¬ f = n := fun z => nf (by rw [z]; exact List.mem_cons_self)
    have e : (f == n) = false := beq_eq_false_iff_ne.mpr ne
    rw [List.cons_append, List.cons_append, List.zip_cons_cons, List.lookup_cons, e]
    exact lookup_last (by simpa using h) fun z => nf (List.mem_cons_of_mem _ z)
def contR {α β : Type} (k : α → M β) : Res α → Res β
  | .ok a ρ => k a ρ
  | .exc c ρ => .exc c ρ
  | .stuck => .stuck
theorem bind_cont {α β : Type} (a : M α) (k : α → M β) (ρ : DL.Env) : bindM a k ρ = contR k (a ρ) := by
  unfold bindM contR
  cases a ρ <;> rfl
section
variable {X : Cx} {m : Md} {W : WX}
theorem is_kinds (iy : Nat) {c f s0 y : Str} {fs : List Str} {js : List Nat} {iter tg e1 e2 ek : Expr} {fi : M (List D)} {t : TgF} {f1 fk f2 : M D} {p0 p1 p2 p3 p4 p5 p6 p7 p8 p9 pos : Pos} (hi0 : 0 < iy) (hm0 : m = ⟨X.K, X.mg, X.w⟩) (T : ClsD X.K X.mg c fs) (hf : f ∈ fs) (hu : X.A.units + 1 < cLine)
    (hp : PassesOwn (model X.prog X.w) X.A X.env X.xe) (hc : X.calm = true) (hN : X.N.Nodup) (hN0 : X.N[0]? = some s0) (hy : X.N[iy]? = some y) (hl : Loc X.env.scope y) (hj : 0 ∉ js)
    (hi : ∀ h, DI X (gi m h) W (.Name y p3) iter fi) (h1 : ∀ h, DE X (gi m h) W e1 f1) (hg : ∀ h, DGt X (gi m h) tg js t) (hk : ∀ h, DE X (gi m h) W ek fk) (h2 : ∀ h, DE X (gi m h) W e2 f2)
    (hvis : Vis X.env.scope s0 := by first | exact .inl rfl | exact .inr (.inl rfl) | exact .inr (.inr rfl)) (hd : (s0 == ("__debug__" : Str)) = false := by decide) (hcd : (s0 == ("__classdict__" : Str)) = false := by decide)
    (hfn : X.fn y = true ∨ X.env.scope.names.lookup y = some .local := by first | exact .inl rfl | exact .inr rfl | assumption)
    (hs1 : swapsWith (.Dict [] [] p2) (some (.Attribute (.Name s0 p0) f p1)) pos.line X.env = pure false := by rfl)
    (hsi : ∀ v, foldedSetIterable iter X.env v = pure v := by intro _; rfl)
    (hs2 : swapsWithSole [tg] e1 p4.line X.env = pure false := by rfl) (hw2 : swappedStores [tg] e1 X.env = pure none := by rfl) (ha2 : (assignEach [tg] X.env).map (·.2) = [assign tg X.env] := by rfl)
    (hb : attributeBase (.Name s0 p5) f X.env (eval (.Name s0 p5) X.env) = eval (.Name s0 p5) X.env := by rfl)
    (hs3 : swapsWith e2 (some (.Subscript (.Attribute (.Name s0 p5) f p6) ek p7)) p8.line X.env = pure false := by rfl) :
    ISs X m W [.Assign [.Attribute (.Name s0 p0) f p1] (.Dict [] [] p2) pos, .For (.Name y p3) iter [.Assign [tg] e1 p4, .Assign [.Subscript (.Attribute (.Name s0 p5) f p6) ek p7] e2 p8] [] p9] (kinM c f iy fi t f1 fk f2) := by
  obtain ⟨C0, t1, t2, t3⟩ := T.ex
  have h1E : PE X e1 (fun σ H Q => ∃ h, dT (gi m h) W f1 σ H Q) := ⟨fun pins s σ H Q I ⟨h, q⟩ => (h1 h).run pins s σ H Q I q⟩
  have h2E : PE X e2 (fun σ H Q => ∃ h, dT (gi m h) W f2 σ H Q) := ⟨fun pins s σ H Q I ⟨h, q⟩ => (h2 h).run pins s σ H Q I q⟩
  have hkE : PE X ek (fun σ H Q => ∃ h, dT (gi m h) W fk σ H Q) := ⟨fun pins s σ H Q I ⟨h, q⟩ => (hk h).run pins s σ H Q I q⟩
  have hgE : PG X tg (fun v σ H Q => ∃ h, tgT (gi m h) js t v σ H Q) := ⟨fun pins s σ H v u Q I r ⟨h, q⟩ => (hg h).run pins s σ H v u Q I r q⟩
  have hiE : PI X (.Name y p3) iter (fun σ H R => ∃ h, iT (gi m h) W fi σ H R) := ⟨fun pins s σ H R I ⟨h, q⟩ => (hi h).run pins s σ H R I q⟩
  refine pss_imp (pss_cons (ps_fld (pe_var (i := 0) hN0 hvis hd hcd) pe_dnewK hs1) (pss_one (ps_lock (ps_for hp hc hiE (pg_name (i := iy) hN hy hl hfn)
    (pss_cons (ps_asg h1E hgE hs2 hw2 ha2) (pss_one (ps_dput hu (pe_fld (pe_var (i := 0) hN0 hvis hd hcd) hb) hkE h2E hs3))) hsi)))) fun E σ H ⟨x, C, dx, c', ns, ds, ρ, k, q⟩ => ?_
  intro p hpn
  obtain ⟨vs, g1, g2, g3⟩ := k.ob
  have nx : x ≠ p := fun z => by rw [z, hpn] at g1; cases g1
  unfold kinM at q
  rw [k.s0] at q
  dsimp only at q
  by_cases cc : c' = c ∧ f ∉ ns ∧ ns.length < 1000 ∧ kC (ρ.set 0 .no) = true
  · rw [if_pos cc] at q
    obtain ⟨e1, nf, e4, kc⟩ := cc
    subst e1
    have mg : m.mg c' = some (.ref C) := k.mg
    have mg2 := mg
    rw [hm0] at mg2
    have mg2 : X.mg c' = some (.ref C) := mg2
    rw [t1] at mg2; cases mg2
    refine ⟨_, k.me, x, C0, dx, ns.zip vs, rfl, by rw [upd_ne nx]; exact g1, t2, t3 f hf, by rw [List.length_zip, ← g2, Nat.min_self]; exact e4, ?_⟩
    rw [putF_new g2 nf]
    have gx : GX x H (upd (upd H p (.dK [])) x (.ins C0 dx ((ns ++ [f]).zip (vs ++ [.ref p])))) := fun b o nb e => by
      have nb2 : b ≠ p := fun z => by rw [z, hpn] at e; cases e
      rw [upd_ne nb, upd_ne nb2]; exact e
    have hx : ∃ C dx fs, H x = some (.ins C dx fs) := ⟨_, _, _, g1⟩
    have K : KOk m x p C0 dx c' f ns ds H σ (upd (upd H p (.dK [])) x (.ins C0 dx ((ns ++ [f]).zip (vs ++ [.ref p])))) (ρ.set 0 .no) [] := by
      refine ⟨⟨by rw [List.length_set]; exact k.len, fun i d e => ?_, fun i xs e => ?_, fun i j xs ys a _ e => ?_, fun p hp => absurd hp List.not_mem_nil, fun a o e _ => e, fun i c e => ?_⟩, kc, k.me, mg, ⟨vs, upd_same, g2, RepL.gx gx hx k.nof g3⟩, ⟨[], by rw [upd_ne nx.symm]; exact upd_same, rfl, .nil⟩, gx, hpn⟩
      · cases i with
        | zero =>
          have h0 : 0 < ρ.length := (List.getElem?_eq_some_iff.mp k.s0).1
          rw [List.getElem?_set_self h0] at e; cases e
        | succ i =>
          rw [List.getElem?_set_ne (by omega)] at e
          obtain ⟨n1, v, e1, e2⟩ := k.dat _ d (Nat.succ_pos i) e
          exact ⟨v, e1, e2.gx gx hx n1⟩
      · have := kC_pl kc i _ e; simp [plain] at this
      · have := kC_pl kc i _ e; simp [plain] at this
      · have := kC_pl kc i _ e; simp [plain] at this
    refine ⟨_, _, K.st, (kStep_run (fin := kinEnd c' f ns ds) (fun _ _ => rfl) rfl K q).mono fun xs ρ1 H1 _ s1 k1 ⟨K1, q1⟩ J io => ?_⟩
    refine ⟨fun j n σ' H' => n = xs.length - j ∧ j ≤ xs.length ∧ Stable H1 H' ∧ ∃ acc ρ', KOk m x p C0 dx c' f ns ds H σ' H' ρ' acc ∧ iPost m W x C0 dx H (kinEnd c' f ns ds (kinGo iy t f1 fk f2 (xs.drop j) acc ρ')) E, ⟨_, rfl, Nat.zero_le _, Stable.rfl, [], ρ1, K1, q1⟩, ?_⟩
    rintro j n σ' H' ⟨rfl, hjl, st, acc, ρ', K', q'⟩
    by_cases lt : j < xs.length
    · refine .inr ⟨io.go j H' st lt, fun σ2 H2 => Stable H1 H2 ∧ ∃ acc ρ2, KOk m x p C0 dx c' f ns ds H σ2 H2 ρ2 acc ∧ iPost m W x C0 dx H (kinEnd c' f ns ds (kinGo iy t f1 fk f2 (xs.drop (j + 1)) acc ρ2)) E, fun σ2 H2 ⟨w1, w2⟩ => ⟨xs.length - (j + 1), by omega, rfl, lt, w1, w2⟩, fun v H2 z => ?_⟩
      obtain ⟨e2, d, hd, rd⟩ := io.yld j H' v H2 st lt z
      subst e2
      have ed : xs.drop j = d :: xs.drop (j + 1) := by
        rw [List.drop_eq_getElem_cons lt]
        rw [List.getElem?_eq_getElem lt] at hd
        injection hd with hd
        rw [hd]
      rw [ed] at q'
      unfold kinGo at q'
      by_cases c1 : kC (ρ'.set iy (.d d)) = true
      · simp only [c1, if_true] at q'
        rw [bind_cont] at q'
        unfold kinBody at q'
        have K3 := K'.next (K'.st.setD (fun q hq => absurd hq List.not_mem_nil) rd) c1 (by rw [List.getElem?_set_ne (by omega)])
        refine ⟨_, _, K3.st, (kStep_run (fin := fun r => kinEnd c' f ns ds (contR _ r)) (fun _ _ => rfl) rfl K3 q').mono fun d1 ρ4 H4 _ s4 k4 ⟨K4, q4⟩ v1 r1 => ?_⟩
        cases et : t d1 ρ4 with
        | none => simp only [et] at q4; exact q4.elim
        | some ρ5 =>
          simp only [et] at q4
          by_cases c5 : kC ρ5 = true
          · rw [if_pos c5] at q4
            refine ⟨_, ρ4, d1, ρ5, K4.st, r1, et, fun σ5 H5 sb s5 k5 => ?_⟩
            have K5 := K4.next k5 c5 (sb.2 0 hj)
            refine ⟨_, _, K5.st, (kStep_run (fin := fun r => kinEnd c' f ns ds (contR _ r)) (fun _ _ => rfl) rfl K5 q4).mono fun d2 ρ6 H6 _ s6 k6 ⟨K6, q6⟩ v2 r2 => ?_⟩
            obtain ⟨ws, o1, o2, o3⟩ := K6.ob
            refine ⟨_, K6.me, x, C0, dx, _, .ref p, rfl, o1, t2, t3 f hf, lookup_last o2 nf, ?_⟩
            refine ⟨_, _, K6.st, (kStep_run (fin := fun r => kinEnd c' f ns ds (contR _ r)) (fun _ _ => rfl) rfl K6 q6).mono fun dk ρ7 H7 _ s7 k7 ⟨K7, q7⟩ vk rk => ?_⟩
            by_cases c7 : isK dk = true ∧ (acc.all fun q => !sameK dk q.1) = true ∧ acc.length < 1000
            · rw [if_pos c7] at q7
              obtain ⟨i1, i2, i3⟩ := c7
              obtain ⟨kk, ek1, ek2⟩ := key_rep rk i1
              subst ek1 ek2
              obtain ⟨kvs, b1, b2, K8⟩ := K7.put i2 i3 (r2.st s7)
              refine ⟨p, _, rfl, DPut.k b1 (by rw [b2]; exact Nat.lt_of_lt_of_le i3 (by decide)), ?_⟩
              have st8 : Stable H7 (upd H7 p (.dK (putK kvs kk v2))) := Stable.upd b1 id
              exact ⟨((((st.trans s4).trans s5).trans s6).trans s7).trans st8, _, ρ7, K8, q7⟩
            · rw [if_neg c7] at q7; exact q7.elim
          · rw [if_neg c5] at q4; exact q4.elim
      · simp only [c1, if_false] at q'; exact q'.elim
    · have hj2 : xs.length ≤ j := by omega
      rw [List.drop_of_length_le hj2] at q'
      exact .inl ⟨io.stop j H' st hj2, K'.done nf q'⟩
  · rw [if_neg cc] at q; exact q.elim
end
end DL
end
section
namespace DL
open PySem PySem.Spec L2 DLS
open PyProof.Rows hiding St
/-! ### what __init__ promises -/
/-- the slots at the start of __init__ -/
def iniE (n : Nat) (c : Str) (as : List D) : DL.Env := .d (.ins c [] []) :: (as.map .d ++ List.replicate (n - (as.length + 1)) .no)
def iniF (n : Nat) (c : Str) (body : MS) (as : List D) : Res D := match body (iniE n c as) with
  | .ok .nx ρ => match (ρ[0]? : Option Sl) with
    | some (.d d) => .ok d []
    | _ => .stuck
  | .exc e _ => .exc e []
  | _ => .stuck
def iniP (m : Md) (x : Addr) (H : Hp) (r : Res D) (Q : VK) (E : XK) : Prop := match r with
  | .ok d _ => ∀ H', GX x H H' → Rep m H' (.ref x) d → Q .non H'
  | .exc e _ => ∀ C' H', m.mg e = some (.ref C') → GX x H H' → E (.ref C') none H'
  | .stuck => False
def spI (m : Md) (c : Str) (k : Nat) (fI : List D → Res D) : Sp := fun vs H Q E => ∃ x C dx ws as, vs = .ref x :: ws ∧ as.length = k ∧ m.mg c = some (.ref C) ∧ H x = some (.ins C dx []) ∧ RepL m H ws as ∧ noInsL as = true ∧ iniP m x H (fI as) Q E
theorem RepL.at_ {m : Md} {H : Hp} : ∀ {vs : List V} {ds : List D}, RepL m H vs ds → noInsL ds = true → ∀ (i : Nat) (d : D), ds[i]? = some d → noIns d = true ∧ ∃ v, vs[i]? = some v ∧ Rep m H v d
  | _, _, .nil, _, i, d, e => by simp at e
  | _, _, .cons a b, n, 0, d, e => by
    rw [noInsL, Bool.and_eq_true] at n
    simp at e; subst e
    exact ⟨n.1, _, rfl, a⟩
  | _, _, .cons a b, n, i + 1, d, e => by
    rw [noInsL, Bool.and_eq_true] at n
    exact RepL.at_ b n.2 i d (by simpa using e)
theorem ini_start {m : Md} {x C dx : Addr} {c : Str} {n : Nat} {H : Hp} {ws : List V} {as : List D} (hm : m.mg c = some (.ref C)) (hx : H x = some (.ins C dx [])) (r : RepL m H ws as) (nn : noInsL as = true) :
    IOk m x C dx c [] [] ((V.ref x :: ws).map some ++ List.replicate (n - (V.ref x :: ws).length) none) H (iniE n c as) := by
  have hl := r.len
  have hl : ws.length = as.length := hl
  refine ⟨by simp [iniE, hl], fun i d hi e => ?_, fun i s e => ?_, rfl, rfl, hm, rfl, ⟨[], hx, rfl, .nil⟩⟩
  · obtain ⟨i, rfl⟩ : ∃ j, i = j + 1 := ⟨i - 1, by omega⟩
    have e : (as.map Sl.d ++ List.replicate (n - (as.length + 1)) Sl.no)[i]? = some (.d d) := e
    by_cases lt : i < as.length
    · rw [List.getElem?_append_left (by simpa using lt), List.getElem?_map] at e
      cases ea : as[i]? with
      | none => rw [ea] at e; cases e
      | some d2 =>
        rw [ea] at e; cases e
        obtain ⟨n1, v, e1, e2⟩ := r.at_ nn i d ea
        refine ⟨n1, v, ?_, e2⟩
        show ((ws.map some ++ List.replicate _ none))[i]? = _
        rw [List.getElem?_append_left (by simp; omega), List.getElem?_map, e1]; rfl
    · rw [List.getElem?_append_right (by simpa using lt)] at e
      have := List.mem_of_getElem? e
      rw [List.mem_replicate] at this
      cases this.2
  · have := List.mem_of_getElem? e
    unfold iniE at this
    rw [List.mem_cons, List.mem_append, List.mem_map, List.mem_replicate] at this
    rcases this with h | ⟨d, _, h⟩ | ⟨_, h⟩
    · subst h; rfl
    · subst h; rfl
    · subst h; rfl
end DL
end
section
namespace DL
open PySem PySem.Spec L2 DLS
open PyProof.Rows hiding St
/-- THE RULE for __init__ -/
theorem ini_ok {P : Program} {w : World} {K : PySem.W.Frag} {mg : Str → Option Value} {base : Heap} {k n : Nat} {f : Addr} {fd : FuncData} {N ps : List Str} {x qual c : Str} {params : Arguments} {body : List Stmt} {scope : Scope} {bm : MS}
    (F : FunD K x qual params body scope [] [] f fd) (S : FnScope N ps scope) (hn : n + 1 = ps.length)
    (D : ∀ (cdv : Value) (A : Around) (outer : List PySem.Env) (s : Shared) (H : Hp) (E : XK), Room k (A.deeper (envOfC qual scope s.heap.objs.size f cdv)) →
      Takes (cxOf (L2.CX P w) P w K mg base N qual scope f cdv A outer s H E) (fun cls d _ H => E cls d H) → ISs (cxOf (L2.CX P w) P w K mg base N qual scope f cdv A outer s H E) ⟨K, mg, w⟩ (fun cls d _ H => E cls d H) body bm) :
    FnOk P w K mg base (L2.CX P w) (k + 1) f fd ps (spI ⟨K, mg, w⟩ c n (iniF N.length c bm)) := by
  refine F.ok S (fun vs H Q E h => ?_) (fun cdv A outer s H vs Q E hr h => ?_)
  · obtain ⟨y, C, dx, ws, as, h1, h2, h3, h4, h5, h6, h7⟩ := h
    rw [h1, ← hn, List.length_cons, h5.len, h2]
  · obtain ⟨y, C, dx, ws, as, h1, h2, h3, h4, h5, h6, h7⟩ := h
    subst h1
    refine ⟨_, D cdv A outer s H E hr (takes_of rfl rfl rfl rfl), y, C, dx, c, [], [], _, ini_start h3 h4 h5 h6, ?_⟩
    unfold iniF at h7
    cases e : bm (iniE N.length c as) with
    | ok fl ρ' =>
      rw [e] at h7
      cases fl with
      | nx =>
        intro c2 ns ds σ' H' g k'
        obtain ⟨vs2, a1, a2, a3⟩ := k'.ob
        dsimp only at h7
        rw [k'.s0] at h7
        exact h7 H' g (.ins k'.mg a1 a2 a3)
      | _ => exact h7.elim
    | exc e2 ρ' =>
      rw [e] at h7
      exact fun σ' C' H' he g => h7 C' H' he g
    | stuck => rw [e] at h7; exact h7.elim
section
variable {X : Cx} {CX : CXT} {k i : Nat} {f C : Addr} {fd : FuncData} {ps : List Str} {sp : Sp} {E : L2.St → XK} {x m : Str} {p pos apos : Pos} {e o : Expr} {es : List Expr} {ta : TE} {t : TA}
theorem run_makeS {pins : List (Addr × Obj)} {σ : L2.St} {H : Hp} {s : Shared} {Q : VK} {us : List Value} {vs : List V} (M : Mk X.K C f) (F : FnOk X.prog X.w X.K X.mg X.base CX k f fd ps sp) (hr : Room (k + 1) X.A) (hb : Binds X.K fd ps [])
    (hx : PassesAt CX X σ (E σ)) (I : Inv X pins σ H s) (r : Vals vs us)
    (h : ∀ x dx, H x = none → H dx = none → dx ≠ x → sp (.ref x :: vs) (upd (upd H dx (.own x)) x (.ins C dx [])) (fun v H2 => v = .non ∧ Q (.ref x) H2) (E σ)) :
    wpAny (model X.prog X.w) X.A (call (.ref C) us) (EP X pins σ Q) X.xe s := by
  have hq := h (s.heap.objs.size + 1) s.heap.objs.size (I.hok.fresh (Nat.le_succ _)) (I.hok.fresh (Nat.le_refl _)) (Nat.ne_of_lt (Nat.lt_succ_self _))
  have I2 := Inv.made (C := C) I
  have r2 : Vals (V.ref (s.heap.objs.size + 1) :: vs) (Value.ref (s.heap.objs.size + 1) :: us) := .cons rfl r
  have hl : ((Value.ref (s.heap.objs.size + 1) :: us) ++ []).length = ps.length := by
    have e := r2.length
    rw [F.len _ _ _ _ hq] at e
    rw [List.append_nil]; exact e.symm
  have b := hb _ (Value.ref (s.heap.objs.size + 1) :: us) I2.kIn hl
  rw [List.append_nil] at b
  refine wpAny_call (make_map (f := f) I.kIn M.makes M.init (beq_iff_eq.mp M.fn) (codeAny_mono (F.run _ X.stack _ _ ⟨Value.ref (s.heap.objs.size + 1) :: us, []⟩ (Value.ref (s.heap.objs.size + 1) :: us) _ _ (E σ) (hr.make C us [])
    (I2.env0.make C us []) b r2 hq) fun r s' hq' => ?_))
  cases r with
  | error e => exact hx pins _ _ e s' I2 hq'
  | ok fl =>
    cases fl with
    | ret u =>
      obtain ⟨v, H', I3, rv, ev, q3⟩ := I2.after hq'
      subst ev
      exact ⟨rv, ⟨V.ref (s.heap.objs.size + 1), H', I3, rfl, q3⟩⟩
    | next => exact False.elim hq'
    | brk => exact False.elim hq'
    | cont => exact False.elim hq'
def tMakeS (C : Addr) (sp : Sp) (E : L2.St → XK) (t : TA) : TE := fun σ H Q => t σ H fun vs H1 => ∀ x dx, H1 x = Option.none → H1 dx = Option.none → dx ≠ x →
  sp (V.ref x :: vs) (upd (upd H1 dx (.own x)) x (.ins C dx [])) (fun v H2 => v = .non ∧ Q (.ref x) H2) (E σ)
theorem pe_makeS (M : Mk X.K C f) (F : FnOk X.prog X.w X.K X.mg X.base CX k f fd ps sp) (hr : Room (k + 1) X.A) (hg : Gl X x) (hm : X.mg x = some (.ref C)) (hb : Binds X.K fd ps []) (hx : ∀ σ, PassesAt CX X σ (E σ))
    (ha : PA X (e :: es) t) (hdb : (x == ("__debug__" : Str)) = false := by decide) (he : starEach (e :: es) X.env = (false, eval e X.env) :: starEach es X.env := by rfl) (hpl : (backTo pos (starEach es X.env)).any (·.1) = false := by rfl) :
    PE X (.Call (.Name x p) (e :: es) [] pos) (tMakeS C sp E t) := by
  refine ⟨fun pins s σ H Q I h => ?_⟩
  refine wpAny_Call_Name_kw (ld_glob I hg hm ?_ hdb)
  refine PySem.W.callWith_K (h₀ := X.base) I.ok.mod.kin M.kp (thn (ha.run pos pins s σ H _ I h) fun us s1 ⟨vs, H1, I1, r, q⟩ => ⟨I1.kIn, ?_⟩) he hpl
  exact run_makeS M F hr hb (hx σ) I1 r q
end
/-- a class of the text that is made -/
structure DMk (P : Program) (w : World) (K : PySem.W.Frag) (mg : Str → Option Value) (base : Heap) (c : Str) (k n : Nat) (fI : List D → Res D) : Prop where
  ex : ∃ C fA fd ps, mg c = some (.ref C) ∧ Mk K C fA ∧ Binds K fd ps [] ∧ FnOk P w K mg base (L2.CX P w) k fA fd ps (spI ⟨K, mg, w⟩ c n fI)
def makeM (n : Nat) (fI : List D → Res D) (fa : M (List D)) : M D := bindM fa fun as ρ => if as.length = n ∧ noInsL as = true then (match fI as with
  | .ok d _ => .ok d ρ
  | .exc e _ => .exc e ρ
  | .stuck => .stuck) else .stuck
theorem de_make {X : Cx} {G : Gh} {W : WX} {j k n : Nat} {c : Str} {p pos : Pos} {e : Expr} {es : List Expr} {fI : List D → Res D} {fa : M (List D)} (hm0 : G.m = ⟨X.K, X.mg, X.w⟩) (tk : Takes X W) (T : DMk X.prog X.w X.K X.mg X.base c j n fI) (hr : Room (k + 1) X.A) (hk : j ≤ k) (hg : Gl X c) (ha : DA X G W (e :: es) fa)
    (hdb : (c == ("__debug__" : Str)) = false := by decide) (he : starEach (e :: es) X.env = (false, eval e X.env) :: starEach es X.env := by rfl) (hpl : (backTo pos (starEach es X.env)).any (·.1) = false := by rfl) :
    DE X G W (.Call (.Name c p) (e :: es) [] pos) (makeM n fI fa) := by
  obtain ⟨C, fA, fd, ps, h1, h2, h3, h4⟩ := T.ex
  refine pe_imp (pe_makeS h2 (h4.mono hk) hr hg h1 h3 (fun σ => passAt tk σ) ha hdb he hpl) fun σ H Q ⟨ρ, k0, q⟩ => ⟨ρ, k0, q.bind.mono fun as ρ1 H1 _ s1 k1 q1 vs rs => ?_⟩
  intro x dx hx hdx ne
  by_cases cc : as.length = n ∧ noInsL as = true
  · rw [if_pos cc] at q1
    have g1 : Grow H1 (upd (upd H1 dx (.own x)) x (.ins C dx [])) := (Grow.new hdx).trans (Grow.new (by rw [upd_ne ne.symm]; exact hx))
    rw [hm0] at rs
    refine ⟨x, C, dx, vs, as, rfl, cc.1, h1, upd_same, rs.st g1.stable, cc.2, ?_⟩
    have gr : ∀ {H2 : Hp}, GX x (upd (upd H1 dx (.own x)) x (.ins C dx [])) H2 → Grow H1 H2 := fun g a o ea => by
      have na : a ≠ x := fun z => by rw [z, hx] at ea; cases ea
      exact g a o na (g1 a o ea)
    cases ef : fI as with
    | ok d ρ2 =>
      rw [ef] at q1
      intro H2 g r2
      rw [← hm0] at r2
      exact ⟨rfl, q1 H2 (gr g).stable (k1.grow (gr g)) _ r2⟩
    | exc e2 ρ2 =>
      rw [ef] at q1
      intro C2 H2 he2 g
      rw [← hm0] at he2
      exact q1 C2 H2 he2 (gr g).stable (k1.grow (gr g))
    | stuck => rw [ef] at q1; exact q1.elim
  · rw [if_neg cc] at q1; exact q1.elim
end DL
end
section
namespace DL
open PySem PySem.Spec L2 DLS
open PyProof.Rows hiding St
/-! ### classes of the text, from the head's facts -/
abbrev BindsM (nm q : Str) (st : Stmt) (ps : List Str) : Prop := ∀ (kV doc pm : Value) (an : Option Addr) (cdv ct : Value) (us : List Value), us.length = ps.length → bindArgs (PySem.W.fnOf nm q (defArgs st) (defBody st) (defScope st) .none kV doc pm an cdv ct) ⟨us, []⟩ = pure (ps.zip us)
/-- a method's function -/
def MethIn (K : PySem.W.Frag) (mg : Str → Option Value) (c nm q : Str) (st : Stmt) (fA : Addr) (fd : FuncData) : Prop := ∃ C, mg c = some (.ref C) ∧ Cls K C ∧ Meth K C nm fA ∧ FunD K nm q (defArgs st) (defBody st) (defScope st) [] [] fA fd
def InitIn (K : PySem.W.Frag) (mg : Str → Option Value) (c q : Str) (st : Stmt) (fA : Addr) (fd : FuncData) : Prop := ∃ C, mg c = some (.ref C) ∧ Mk K C fA ∧ FunD K "__init__" q (defArgs st) (defBody st) (defScope st) [] [] fA fd
section
variable {fa : List He.Fa} {fn : List He.DefD} {K : PySem.W.Frag} {h : Heap} {mg : Str → Option Value}
theorem cls_in (X : K.In h) (G : h.Ns mainGlobals mg) (c : He.SaysD fa fn K) {x : Str} {fs : List Str} (j1 j2 : Nat) (h1 : fa[j1]? = some (.glo x)) (h2 : fa[j2]? = some (.cls x)) (h3 : ∀ f ∈ fs, ∃ j : Nat, fa[j]? = some (He.Fa.noat x f)) : ClsD K mg x fs :=
  ⟨_, He.glo_ok X G (c.fact j1 h1), He.cls_ok (c.fact j2 h2), fun f hf => by
    obtain ⟨j, hj⟩ := h3 f hf
    exact He.noat_ok (c.fact j hj)⟩
theorem meth_in (X : K.In h) (G : h.Ns mainGlobals mg) (c : He.SaysD fa fn K) {x nm q : Str} {st : Stmt} (i j1 j2 j3 : Nat) (hi : fn[i]? = some ⟨(x, some nm), nm, q, defArgs st, defBody st, defScope st, [], []⟩) (h1 : fa[j1]? = some (.glo x)) (h2 : fa[j2]? = some (.cls x)) (h3 : fa[j3]? = some (.meth x nm)) :
    ∃ fA fd, MethIn K mg x nm q st fA fd := by
  obtain ⟨fd, F⟩ := c.def_ i hi
  exact ⟨_, fd, _, He.glo_ok X G (c.fact j1 h1), He.cls_ok (c.fact j2 h2), He.meth_ok (c.fact j3 h3), F⟩
theorem init_in (X : K.In h) (G : h.Ns mainGlobals mg) (c : He.SaysD fa fn K) {x q : Str} {st : Stmt} (i j1 j2 : Nat) (hi : fn[i]? = some ⟨(x, some "__init__"), "__init__", q, defArgs st, defBody st, defScope st, [], []⟩) (h1 : fa[j1]? = some (.glo x)) (h2 : fa[j2]? = some (.mkr x)) :
    ∃ fA fd, InitIn K mg x q st fA fd := by
  obtain ⟨fd, F⟩ := c.def_ i hi
  exact ⟨_, fd, _, He.glo_ok X G (c.fact j1 h1), He.mkr_ok (c.fact j2 h2), F⟩
end
section
variable {P : Program} {w : World} {K : PySem.W.Frag} {mg : Str → Option Value} {base : Heap} {c nm q : Str} {st : Stmt} {fA : Addr} {fd : FuncData} {k n : Nat} {N ps : List Str} {md : List Bool} {rm : RM} {bm : MS}
theorem dme_ok (Dn : MethIn K mg c nm q st fA fd) (S : FnScope N ps (defScope st)) (hmd : md.length = ps.length) (hb : BindsM nm q st ps)
    (D : ∀ (cdv : Value) (A : Around) (outer : List PySem.Env) (s : Shared) (H : Hp) (E : XK) (H0 : Hp) (pr : List (Nat × Addr)), (∀ i, md.getD i false = false → pfree ⟨⟨K, mg, w⟩, H0, pr, none⟩ i) → Room k (A.deeper (envOfC q (defScope st) s.heap.objs.size fA cdv)) →
      Takes (cxOf (L2.CX P w) P w K mg base N q (defScope st) fA cdv A outer s H E) (fun cls d _ H => E cls d H) → DSs (cxOf (L2.CX P w) P w K mg base N q (defScope st) fA cdv A outer s H E) ⟨⟨K, mg, w⟩, H0, pr, none⟩ (fun cls d _ H => E cls d H) .f (defBody st) bm) :
    DMe P w K mg base c nm (k + 1) md (fnM false N.length bm) := by
  obtain ⟨C, h1, h2, h3, F⟩ := Dn
  exact ⟨C, fA, fd, ps, h1, h2, h3, F.bindsN hb, fn_ok F S hmd D⟩
theorem dmk_ok (Dn : InitIn K mg c q st fA fd) (S : FnScope N ps (defScope st)) (hn : n + 1 = ps.length) (hb : BindsM "__init__" q st ps)
    (D : ∀ (cdv : Value) (A : Around) (outer : List PySem.Env) (s : Shared) (H : Hp) (E : XK), Room k (A.deeper (envOfC q (defScope st) s.heap.objs.size fA cdv)) →
      Takes (cxOf (L2.CX P w) P w K mg base N q (defScope st) fA cdv A outer s H E) (fun cls d _ H => E cls d H) → ISs (cxOf (L2.CX P w) P w K mg base N q (defScope st) fA cdv A outer s H E) ⟨K, mg, w⟩ (fun cls d _ H => E cls d H) (defBody st) bm) :
    DMk P w K mg base c (k + 1) n (iniF N.length c bm) := by
  obtain ⟨C, h1, h2, F⟩ := Dn
  exact ⟨C, fA, fd, ps, h1, h2, F.bindsN hb, ini_ok F S hn D⟩
end
end DL
end
section
namespace DL
open PySem PySem.Spec L2
theorem room_hv {k : Nat} {A : Around} (r : Room k A) : A.units + 130 < cLine := by have := r.un; omega
/-- sorted of a list, of a dict with text keys -/
def sortG (ds : List D) : Option (List D) := (sortL ds).or (sortK ds)
end DL
end
section
namespace DL
open PySem PySem.Spec L2 DLS
open PyProof.Rows hiding St
/-! ### containers of a def's own: lists and dicts -/
def cT (G : Gh) (W : WX) (f : M OC) : TE := fun σ H Q => ∃ ρ, StOk G σ H ρ ∧ postG G W σ H (f ρ) fun c ρ' H' => ∀ a o, H' a = some o → RepO G.m H' a o c → Fresh G σ ρ' a → Q (.ref a) H'
def DC (X : Cx) (G : Gh) (W : WX) (e : Expr) (f : M OC) : Prop := PE X e (cT G W f)
def ocL (f : M (List D)) : M OC := bindM f fun xs => pureM (.l xs)
def ocM (f : M OC) : M D := bindM f fun c => pureM (ocD c)
def setCM (i : Nat) (f : M OC) : MS := bindM f fun c ρ => .ok .nx (ρ.set i (.cell c))
def consC (f : M OC) (g : M (List Ag)) : M (List Ag) := bindM f fun c => bindM g fun r => pureM (.tmp c :: r)
def putC (i : Nat) (c : OC) : M Unit := fun ρ => .ok () (ρ.set i (.cell c))
def getC (i : Nat) : M OC := fun ρ => match ρ[i]? with
  | some (.cell c) => .ok c ρ
  | _ => .stuck
section
variable {X : Cx} {G : Gh} {W : WX} {e a b : Expr} {es : List Expr} {pos : Pos} {rm : RM}
theorem dc_new : DC X G W (.Dict [] [] pos) (pureM (.k [] [])) := pe_imp pe_dnewK fun σ H Q ⟨ρ, k, q⟩ => fun p hp =>
  q _ (Grow.new hp).stable (k.grow (Grow.new hp)) p _ upd_same (.inl ⟨[], rfl, rfl, .nil⟩) (k.fresh hp)
theorem ds_setC (i : Nat) {x : Str} {f : M OC} {pos' : Pos} (hp : pfree G i) (hN : X.N.Nodup) (hi : X.N[i]? = some x) (hx : Loc X.env.scope x) (he : DC X G W e f) (hs : swapsWith e (some (.Name x pos')) pos.line X.env = pure false := by rfl) (hf : X.fn x = true ∨ X.env.scope.names.lookup x = some .local := by first | exact .inl rfl | exact .inr rfl | assumption) :
    DS X G W rm (.Assign [.Name x pos'] e pos) (setCM i f) := ps_imp (ps_set hN hi hx he hs hf) fun E σ H ⟨ρ, k, q⟩ => ⟨ρ, k, q.bind.mono fun c ρ1 H1 _ s1 k1 q1 a o ha r f => q1 _ H1 Stable.rfl (k1.setC hp ha r f)⟩
end

/-! ### own dicts with flat keys -/
def putF (x d : D) (ks vs : List D) : List D × List D :=
  if (ks.any fun k => sameK k x) = true then (ks, (ks.zip vs).map fun p => if sameK p.1 x = true then d else p.2) else (ks ++ [x], vs ++ [d])
theorem putF_rep {m : Md} {H : Hp} {d : D} {v : V} (rv : Rep m H v d) (k : Key) {kvs : List (Key × V)} {ds : List D} (r : RepL m H (kvs.map (·.2)) ds) :
    (putF (keyD k) d (kvs.map fun p => keyD p.1) ds).1 = (putK kvs k v).map (fun p => keyD p.1) ∧ RepL m H ((putK kvs k v).map (·.2)) (putF (keyD k) d (kvs.map fun p => keyD p.1) ds).2 := by
  have ea : ((kvs.map fun p => keyD p.1).any fun k' => sameK k' (keyD k)) = kvs.any fun kv => decide (kv.1 = k) := by
    rw [List.any_map]
    congr 1
    funext p
    exact same_key p.1 k
  unfold putF putK
  rw [ea]
  by_cases z : (kvs.any fun kv => decide (kv.1 = k)) = true
  · rw [if_pos z, if_pos z]
    constructor
    · show (kvs.map fun p => keyD p.1) = _
      rw [List.map_map]
      refine List.map_congr_left fun q _ => ?_
      by_cases c : q.1 = k <;> simp [c]
    · show RepL m H _ (((kvs.map fun p => keyD p.1).zip ds).map fun p => if sameK p.1 (keyD k) = true then d else p.2)
      clear ea z
      induction kvs generalizing ds with
      | nil => cases r; exact .nil
      | cons p l ih =>
        cases r with
        | cons r1 r2 =>
          simp only [List.map_cons, List.zip_cons_cons]
          refine .cons ?_ (ih r2)
          rw [same_key]
          by_cases c : p.1 = k
          · simp [c]; exact rv
          · simp [c]; exact r1
  · rw [if_neg z, if_neg z]
    simp only [List.map_append, List.map_cons, List.map_nil]
    exact ⟨trivial, r.append (.cons rv .nil)⟩
/-- d[k] = v, d an own dict with flat keys -/
def setKD (c : OC) (k d : D) : Option OC := match c with
  | .k ks vs => if (isK k && ks.all isK) = true ∧ ks.length < sizeLine then some (.k (putF k d ks vs).1 (putF k d ks vs).2) else none
  | _ => none
/-- a store into a container: SetC -/
def SetC (m : Md) (r : TSet) (g : OC → D → D → Option OC) : Prop := ∀ (a : Addr) (o : HO) (y v : V) (c c' : OC) (dy d : D) (H : Hp) (Q : Hp → Prop), H a = some o → RepO m H a o c → Rep m H y dy → Rep m H v d → g c dy d = some c' →
  (∀ o', RepO m H a o' c' → Q (upd H a o')) → r (.ref a) y v H Q
theorem setc_flat {m : Md} : SetC m rSetD setKD := fun a o y v c c' dy d H Q ha ro ry rv e k => by
  unfold setKD at e
  cases c with
  | l xs => cases e
  | k ks vs =>
    by_cases h : (isK dy && ks.all isK) = true ∧ ks.length < sizeLine
    · simp only [h, and_self, if_true] at e
      cases e
      obtain ⟨h1, h2⟩ := h
      rw [Bool.and_eq_true] at h1
      rcases ro with ⟨kvs, rfl, rfl, r⟩ | ⟨kvs, rfl, n, _, r1, _⟩
      · obtain ⟨ky, rfl, rfl⟩ := key_rep ry h1.1
        obtain ⟨e1, e2⟩ := putF_rep rv ky r
        show ∃ a' H', V.ref a = .ref a' ∧ DPut H a' (kV ky) v H' ∧ Q H'
        exact ⟨a, _, rfl, .inl ⟨kvs, ky, ha, rfl, by simpa using h2, rfl⟩, k _ (.inl ⟨_, rfl, e1, e2⟩)⟩
      · exact (notK r1 n h1.2).elim
    · simp only [h, if_false] at e; cases e
section
variable {X : Cx} {G : Gh} {W : WX} {e a b : Expr} {es : List Expr} {pos : Pos} {rm : RM}
theorem getC_runS {i : Nat} {ρ : DL.Env} {H : Hp} {k : OC → MS} {E : Ends} (h : postS G W rm H (bindM (getC i) k ρ) E) : ∃ c, ρ[i]? = some (.cell c) ∧ postS G W rm H (k c ρ) E := by
  unfold bindM at h
  cases e : ρ[i]? with
  | none =>
    have e2 : getC i ρ = .stuck := by unfold getC; rw [e]
    rw [e2] at h; exact h.elim
  | some sl =>
    cases sl with
    | cell c =>
      have e2 : getC i ρ = .ok c ρ := by unfold getC; rw [e]
      rw [e2] at h; exact ⟨c, rfl, h⟩
    | _ =>
      have e2 : getC i ρ = .stuck := by unfold getC; rw [e]
      rw [e2] at h; exact h.elim
def setGM (g : OC → D → D → Option OC) (i : Nat) (fk fe : M D) : MS := bindM fe fun d => bindM (getC i) fun _ => bindM fk fun z => bindM (getC i) fun c => bindM (liftM (g c z d)) fun c' => bindM (putC i c') fun _ => skipM
theorem ds_setG (i : Nat) {x : Str} {k : Expr} {r : TSet} {g : OC → D → D → Option OC} {fk fe : M D} {pos' pos2 : Pos} (hr : PSet X r) (hg : SetC G.m r g) (he : DE X G W e fe) (hk : DE X G W k fk) (hN : X.N[i]? = some x) (hv : Vis X.env.scope x := by first | exact .inl rfl | exact .inr (.inl rfl) | exact .inr (.inr rfl)) (hd : (x == ("__debug__" : Str)) = false := by decide) (hcd : (x == ("__classdict__" : Str)) = false := by decide)
    (ha : ∀ v, assign (.Subscript (.Name x pos') k pos2) X.env v = (do
      let ov ← holding [v] (eval (.Name x pos') X.env)
      let iv ← holding [v, ov] (eval k X.env)
      standAt pos2
      holding [v, ov, iv] (setItem ov iv v)
      release [v, ov, iv] []) := by intro _; rfl)
    (hs : swapsWithSole [.Subscript (.Name x pos') k pos2] e pos.line X.env = pure false := by rfl) (hw : swappedStores [.Subscript (.Name x pos') k pos2] e X.env = pure none := by rfl)
    (h1 : (assignEach [.Subscript (.Name x pos') k pos2] X.env).map (·.2) = [assign (.Subscript (.Name x pos') k pos2) X.env] := by rfl) :
    DS X G W rm (.Assign [.Subscript (.Name x pos') k pos2] e pos) (setGM g i fk fe) :=
  ps_imp (ps_asg he (pg_sub (pe_var (i := i) hN hv hd hcd) hk hr ha) hs hw h1) fun E σ H ⟨ρ, st, q⟩ => ⟨ρ, st, q.bind.mono fun d ρ1 H1 _ s1 k1 q1 v rv => by
    obtain ⟨c0, e0, q1⟩ := getC_runS q1
    obtain ⟨a, o0, g1, _⟩ := k1.own i c0 e0
    refine ⟨_, g1, ρ1, k1, q1.bind.mono fun z ρ2 H2 _ s2 k2 q2 zv rz => ?_⟩
    obtain ⟨c, e2, q2⟩ := getC_runS q2
    obtain ⟨a', o, w1, w2, w3, _⟩ := k2.own i c e2
    rw [g1] at w1; injection w1 with w1; injection w1 with w1; injection w1 with w1
    subst w1
    obtain ⟨c', e3, q3⟩ := (q2.bind (σ := σ)).lift k2
    refine hg a o zv v c c' z d H2 _ w2 w3 rz (rv.st s2) e3 fun o' ro' => ?_
    have st2 : Stable H2 (upd H2 a o') := Stable.upd w2 w3.nf
    exact q3 H2 Stable.rfl k2 σ _ st2 (k2.wroteC e2 g1 ro')⟩
/-- {k: v, ..} as a dict of the def's own -/
def dicC (fs : List (M D × M D)) : M OC := bindM (pairsM fs) fun ps => if difK (ps.map (·.1)) = true ∧ ps.length ≤ 15 then pureM (.k (ps.map (·.1)) (ps.map (·.2))) else stuckM
theorem dc_dict {ks : List (Option Expr)} {vs : List Expr} {fs : List (M D × M D)} (h : DPs X G W ks vs fs) (hall : ks.all (·.isSome) = true) (hl : ks.length = vs.length) (h0 : ks ≠ []) (h15 : ks.length ≤ 15) : DC X G W (.Dict ks vs pos) (dicC fs) :=
  pe_imp (pe_disp (dps_pps h) hall hl h0 h15) fun σ H Q ⟨ρ, k, q⟩ => fun p hp => by
    have gr := Grow.new (o := .dK []) hp
    have f : Fresh G σ ρ p := k.fresh hp
    have k1 := (k.grow gr).add f upd_same
    have q1 := q.bind
    refine pairs_read (h := (G.add p (.dK [])).H0) fs k1 ?_
    have q2 := postG.from gr.stable q1
    have conv : ∀ H' ρ', StOk (G.at (G.add p (.dK [])).H0) σ H' ρ' → StOk G σ H' ρ' := fun H' ρ' k' => (StOk.unadd (p := p) (o := .dK []) k' f.1 f.2.1).1
    refine (postG.reG (G := G) (G' := G.at (G.add p (.dK [])).H0) rfl conv q2).mono fun ps ρ2 H2 _ s2 k2 q3 k2' ws rs => ?_
    obtain ⟨q3, _⟩ := q3
    obtain ⟨k3, f3, hp2⟩ := StOk.unadd (p := p) (o := .dK []) k2' f.1 f.2.1
    by_cases c : difK (ps.map (·.1)) = true ∧ ps.length ≤ 15
    · rw [if_pos c] at q3
      obtain ⟨kvs, e1, e2, e3, e4⟩ := keys_of rs (by have := difK_all c.1; rw [List.all_map] at this; exact this)
      refine ⟨hp2, kvs, e1, by omega, ?_⟩
      have nd := difK_nodup (kvs := kvs) (by rw [← e2]; exact c.1)
      have em : mergeK [] kvs = kvs := by rw [merge_dif kvs [] (fun k _ z => by simp at z) nd]; rfl
      rw [em]
      have st : Stable H2 (upd H2 p (.dK kvs)) := Stable.upd hp2 id
      refine q3 _ st (k3.upd f3 fun u hu => nfix_of hp2 id hu) p _ upd_same (.inl ⟨kvs, rfl, e2, e3.st st⟩) f3
    · rw [if_neg c] at q3; exact q3.elim
end
end DL
end
section
namespace DL
open PySem PySem.Spec L2 DLS
open PyProof.Rows hiding St
/-! ### slices -/
def cutL {α : Type} (xs : List α) (lo hi : Option Int) : List α := (xs.drop (HT.sIx xs.length 0 lo)).take (HT.sIx xs.length xs.length hi - HT.sIx xs.length 0 lo)
def slD (lo hi : Option Int) : D → Option D
  | .lst xs => some (.lst (cutL xs lo hi))
  | .tup xs => some (.tup (cutL xs lo hi))
  | .str z => if z.length ≤ sizeLine then some (.str ⟨(cutL z.cps.toList lo hi).toArray⟩) else none
  | _ => none
def rSlU (K : PySem.W.Frag) : V → Option Int → Option Int → Hp → VK → Prop := fun x lo hi H Q => rSlL K x lo hi H Q ∨ (rSlA K x lo hi H Q ∨ rSlS x lo hi H Q)
theorem sl_U {X : Cx} : SlR X (rSlU X.K) := sl_list.or (sl_tupA.or sl_str)
def partM (f : M D) : M (Option Int) := bindM f fun d => match d with
  | .int i => pureM (some i)
  | _ => stuckM
section
variable {X : Cx} {G : Gh} {W : WX} {e : Expr} {lo hi : Option Expr} {pos p2 : Pos}
def pT (G : Gh) (W : WX) (f : M (Option Int)) : TO := fun σ H Q => ∃ ρ, StOk G σ H ρ ∧ postG G W σ H (f ρ) fun o _ H' => Q o H'
def DP (X : Cx) (G : Gh) (W : WX) (e : Option Expr) (f : M (Option Int)) : Prop := PO X e (pT G W f)
theorem po_imp {e : Option Expr} {t t' : TO} (h : PO X e t) (k : ∀ σ H Q, t' σ H Q → t σ H Q) : PO X e t' := ⟨fun pins s σ H Q I q => h.run pins s σ H Q I (k σ H Q q)⟩
theorem dp_none : DP X G W none (pureM none) := po_imp po_none fun σ H Q ⟨ρ, k, q⟩ => q H Stable.rfl k
theorem dp_some {f : M D} (h : DE X G W e f) : DP X G W (some e) (partM f) := po_imp (po_some h) fun σ H Q ⟨ρ, k, q⟩ => ⟨ρ, k, q.bind.mono fun d ρ1 H1 _ s1 k1 q1 v r => by
  cases r with
  | int i => exact ⟨i, rfl, q1 H1 Stable.rfl k1⟩
  | _ => exact q1.elim⟩
def slM (fe : M D) (fl fh : M (Option Int)) : M D := bindM fe fun x => bindM fl fun l => bindM fh fun h => liftM (slD l h x)
theorem repL_cut {m : Md} {H : Hp} {vs : List V} {ds : List D} (r : RepL m H vs ds) (l h : Option Int) : RepL m H (cutV vs l h) (cutL ds l h) := by
  unfold cutV cutL
  rw [r.len]
  exact (r.drop _).take _
theorem de_slice {fe : M D} {fl fh : M (Option Int)} (hm0 : G.m = ⟨X.K, X.mg, X.w⟩) (he : DE X G W e fe) (hl : DP X G W lo fl) (hh : DP X G W hi fh) : DE X G W (.Subscript e (.Slice lo hi none p2) pos) (slM fe fl fh) :=
  pe_imp (pe_fz (pe_slice sl_U he hl hh)) fun σ H Q ⟨ρ, k, q⟩ => ⟨ρ, k, q.bind.mono fun x ρ1 H1 _ s1 k1 q1 v r => ⟨ρ1, k1, q1.bind.mono fun l ρ2 H2 _ s2 k2 q2 => ⟨ρ2, k2, q2.bind.mono fun h ρ3 H3 _ s3 k3 q3 => by
    have r := (r.st s2).st s3
    obtain ⟨d, e, q4⟩ := q3.lift k3
    have eK : X.K = G.m.K := by rw [hm0]
    cases r with
    | @lst a vs xs qa ra =>
      cases e
      refine .inl ⟨a, vs, rfl, by rw [eK]; exact qa.sq, fun p hp => .inr ⟨p, _, rfl, upd_same, trivial, fun o => ?_⟩⟩
      have eu : upd (upd H3 p (.lst (cutV vs l h))) p (.frz o (.lst (cutV vs l h))) = upd H3 p (.frz o (.lst (cutV vs l h))) := upd_upd
      rw [eu]
      have g := Grow.new (o := .frz o (.lst (cutV vs l h))) hp
      exact q4 _ g.stable (k3.grow g) _ (.lst (.inl ⟨o, upd_same⟩) ((repL_cut ra l h).st g.stable))
    | @tup a vs xs qa ra =>
      cases e
      refine .inr (.inl ⟨a, vs, rfl, by rw [eK]; exact qa, fun c => .inl ?_, fun c p hp => .inl ?_⟩)
      · rw [ra.len] at c
        have eq : cutL xs l h = xs := by
          unfold cutL
          rw [c.1, c.2]
          simp
        exact q4 _ Stable.rfl k3 _ (by rw [eq]; exact .tup qa ra)
      · have g := Grow.new (o := .tup (cutV vs l h)) hp
        exact q4 _ g.stable (k3.grow g) _ (.tup (SqT.of upd_same) ((repL_cut ra l h).st g.stable))
    | str z =>
      have e : (if z.length ≤ sizeLine then some (D.str ⟨(cutL z.cps.toList l h).toArray⟩) else none) = some d := e
      by_cases c : z.length ≤ sizeLine
      · rw [if_pos c] at e; cases e
        refine .inr (.inr ⟨z, rfl, c, .inl ?_⟩)
        have ez : cutS z l h = ⟨(cutL z.cps.toList l h).toArray⟩ := by
          unfold cutS cutL
          have : z.length = z.cps.toList.length := by simp [Str.length]
          rw [this]
        rw [ez]
        exact q4 H3 Stable.rfl k3 _ (.str _)
      · rw [if_neg c] at e; cases e
    | _ => cases e⟩⟩⟩
/-- xs[::-1], a list -/
def revM (f : M D) : M D := bindM f fun d => match d with
  | .lst xs => pureM (.lst xs.reverse)
  | _ => stuckM
/-! ### a + b as a list of the def's own -/
def catD : D → D → Option (List D)
  | .lst xs, .lst ys => if xs.length + ys.length ≤ sizeLine then some (xs ++ ys) else none
  | _, _ => none
def catM (fa fb : M D) : M (List D) := bindM fa fun x => bindM fb fun y => liftM (catD x y)
end
end DL
end
section
namespace DL
open PySem PySem.Spec L2 DLS
open PyProof.Rows hiding St
/-! ### values that may be containers of the def's own -/
def Hand (G : Gh) (σ : L2.St) (ρ : DL.Env) (H : Hp) (v : V) (d : D) : Prop := match conOf d with
  | some c => ∃ a o, v = .ref a ∧ H a = some o ∧ RepO G.m H a o c ∧ Fresh G σ ρ a
  | none => Rep G.m H v d
def xT (G : Gh) (W : WX) (f : M D) : TE := fun σ H Q => ∃ ρ, StOk G σ H ρ ∧ postG G W σ H (f ρ) fun d ρ' H' => ∀ v, Hand G σ ρ' H' v d → Q v H'
def DX (X : Cx) (G : Gh) (W : WX) (e : Expr) (f : M D) : Prop := PE X e (xT G W f)
def setXM (i : Nat) (f : M D) : MS := bindM f fun d ρ => match conOf d with
  | some c => .ok .nx (ρ.set i (.cell c))
  | none => .ok .nx (ρ.set i (.d d))
def giveX (i : Nat) : M D := bindM (getC i) fun c ρ => .ok (ocD c) (ρ.set i .no)
section
variable {X : Cx} {G : Gh} {W : WX} {e a b : Expr} {es : List Expr} {pos p : Pos} {rm : RM} {x : Str} {j k : Nat} {md : List Bool} {f : Fn} {fa : M (List Ag)}
theorem dx_call {CX : CXT} {kk : Nat} {fA : Addr} {fd : FuncData} {ps : List Str} (hex : G.ex = none) (hm0 : G.m = ⟨X.K, X.mg, X.w⟩) (tk : Takes X W) (F : FnOk X.prog X.w X.K X.mg X.base (L2.CX X.prog X.w) kk fA fd ps (spD ⟨X.K, X.mg, X.w⟩ none md .o f)) (hr : Room kk X.A) (hg : Gl X x) (hm : X.mg x = some (.ref fA)) (hk : PySem.W.keepIn X.K (.ref fA) = true) (hb : Binds X.K fd ps [])
    (ha : DG X G W (e :: es) fa) (hdb : (x == ("__debug__" : Str)) = false := by decide) (he : starEach (e :: es) X.env = (false, eval e X.env) :: starEach es X.env := by rfl) (hpl : (backTo pos (starEach es X.env)).any (·.1) = false := by rfl) :
    DX X G W (.Call (.Name x p) (e :: es) [] pos) (callM f (mdM md fa)) :=
  pe_imp (pe_callS F hr hg hm hk hb (fun σ => passAt tk σ) ha hdb he hpl) fun σ H Q ⟨ρ, k, q⟩ => ⟨ρ, k, (mdM_run q).mono fun ags ρ1 H1 _ s1 k1 q1 vs rs fs => by
    rw [← hm0]
    refine call_run hex k1 rs fs (fun ρ' e => by rw [e]; exact q1.1) q1.2 fun d ρ' v H' s' k' ow rf h => h v ?_
    unfold RetF at rf
    unfold Hand
    cases c : conOf d with
    | none => simp only [c] at rf ⊢; exact rf
    | some oc =>
      simp only [c] at rf ⊢
      obtain ⟨a, o, e1, e2, e3, e4⟩ := rf
      have fr := k1.fresh e4
      refine ⟨a, o, e1, e2, e3, fr.1, fr.2.1, fun i xs hi z => ?_⟩
      obtain ⟨xs0, h0⟩ := ow i xs hi
      exact fr.2.2 i xs0 h0 z⟩
theorem dx_calls (hex : G.ex = none) (hm0 : G.m = ⟨X.K, X.mg, X.w⟩) (tk : Takes X W) (C : DFn X.prog X.w X.K X.mg X.base x j md .o f) (hr : Room k X.A) (hk : j ≤ k) (hg : Gl X x) (ha : DG X G W (e :: es) fa) (hdb : (x == ("__debug__" : Str)) = false := by decide) (he : starEach (e :: es) X.env = (false, eval e X.env) :: starEach es X.env := by rfl) (hpl : (backTo pos (starEach es X.env)).any (·.1) = false := by rfl) :
    DX X G W (.Call (.Name x p) (e :: es) [] pos) (callM f (mdM md fa)) := by
  obtain ⟨fA, fd, ps, h1, h2, h3, h4⟩ := C.ex
  exact dx_call (CX := L2.CX X.prog X.w) hex hm0 tk h4 (hr.mono hk) hg h1 h2 h3 ha hdb he hpl
theorem dx_list {f : M (List D)} (h : DO X G W e f) : DX X G W e (lstM f) := pe_imp h fun σ H Q ⟨ρ, k, q⟩ => ⟨ρ, k, q.bind.mono fun ds ρ1 H1 _ s1 k1 q1 a vs ha r fr => q1 H1 Stable.rfl k1 _ ⟨a, _, rfl, ha, ⟨vs, rfl, r⟩, fr⟩⟩
theorem ds_setX (i : Nat) {x : Str} {f : M D} {pos' : Pos} (hp : pfree G i) (hN : X.N.Nodup) (hi : X.N[i]? = some x) (hx : Loc X.env.scope x) (he : DX X G W e f) (hs : swapsWith e (some (.Name x pos')) pos.line X.env = pure false := by rfl) (hf : X.fn x = true ∨ X.env.scope.names.lookup x = some .local := by first | exact .inl rfl | exact .inr rfl | assumption) :
    DS X G W rm (.Assign [.Name x pos'] e pos) (setXM i f) := ps_imp (ps_set hN hi hx he hs hf) fun E σ H ⟨ρ, k, q⟩ => ⟨ρ, k, q.bind.mono fun d ρ1 H1 _ s1 k1 q1 v hv => by
  unfold Hand at hv
  cases c : conOf d with
  | none => simp only [c] at hv q1; exact q1 _ H1 Stable.rfl (k1.setD hp hv)
  | some oc =>
    simp only [c] at hv q1
    obtain ⟨a, o, rfl, ha, hr, hf⟩ := hv
    exact q1 _ H1 Stable.rfl (k1.setC hp ha hr hf)⟩
theorem ds_retDX {f : M D} (he : DX X G W e f) : DS X G W .o (.Return (some e) pos) (retM f) :=
  ps_imp (ps_ret he) fun E σ H ⟨ρ, k, q⟩ => ⟨ρ, k, q.bind.mono fun d ρ1 H1 _ s1 k1 q1 v hv => q1 v σ H1 Stable.rfl k1 (by
    unfold Hand at hv
    unfold RetOk
    cases c : conOf d with
    | none => simp only [c] at hv ⊢; exact hv
    | some oc =>
      simp only [c] at hv ⊢
      obtain ⟨a, o, e1, e2, e3, e4⟩ := hv
      exact ⟨a, o, e1, e2, e3, e4.1, e4.2.1⟩)⟩
end
end DL
end
section
namespace DL
open PySem PySem.Spec L2 DLS
open PyProof.Rows hiding St
/-! ### own containers lent as data, for an answer that holds none of them -/
def atomD : D → Bool
  | .non => true
  | .bl _ => true
  | .int _ => true
  | .str _ => true
  | _ => false
def dataS : Sl → Sl
  | .cell c => .d (ocD c)
  | s => s
def dataE (ρ : DL.Env) : DL.Env := ρ.map dataS
def lendM (f : M D) : M D := fun ρ => match f (dataE ρ) with
  | .ok d _ => if atomD d = true then .ok d ρ else .stuck
  | _ => .stuck
/-- HL is H with the containers of l locked -/
def LockedBy (H HL : Hp) (l : List (Addr × HO)) : Prop := (∀ b, b ∉ l.map (·.1) → HL b = H b) ∧ ∀ p ∈ l, ∃ od, HL p.1 = some (.frz od p.2)
/-- the own containers of a state -/
theorem StOk.cells {G : Gh} {σ : L2.St} {H : Hp} {ρ : DL.Env} (k : StOk G σ H ρ) : ∀ n, n ≤ ρ.length → ∃ l : List (Addr × HO), (l.map (·.1)).Nodup ∧ (∀ p ∈ l, ∃ i c, i < n ∧ ρ[i]? = some (.cell c) ∧ σ[i]? = some (some (.ref p.1)) ∧ H p.1 = some p.2 ∧ RepO G.m H p.1 p.2 c) ∧
    ∀ i c, i < n → ρ[i]? = some (.cell c) → ∃ p ∈ l, σ[i]? = some (some (.ref p.1)) ∧ H p.1 = some p.2 ∧ RepO G.m H p.1 p.2 c
  | 0, _ => ⟨[], List.nodup_nil, fun p hp => absurd hp List.not_mem_nil, fun i c h => absurd h (by omega)⟩
  | n + 1, hn => by
    obtain ⟨l, h1, h2, h3⟩ := k.cells n (by omega)
    have up : ∀ p ∈ l, ∃ i c, i < n + 1 ∧ ρ[i]? = some (.cell c) ∧ σ[i]? = some (some (.ref p.1)) ∧ H p.1 = some p.2 ∧ RepO G.m H p.1 p.2 c := fun p hp => by
      obtain ⟨i, c, a, b⟩ := h2 p hp
      exact ⟨i, c, by omega, b⟩
    have other : (∀ c, ρ[n]? ≠ some (.cell c)) → _ := fun hc => (⟨l, h1, up, fun i c hi e => by
      by_cases z : i = n
      · subst z; exact absurd e (hc c)
      · exact h3 i c (by omega) e⟩ : ∃ l : List (Addr × HO), (l.map (·.1)).Nodup ∧ (∀ p ∈ l, ∃ i c, i < n + 1 ∧ ρ[i]? = some (.cell c) ∧ σ[i]? = some (some (.ref p.1)) ∧ H p.1 = some p.2 ∧ RepO G.m H p.1 p.2 c) ∧
    ∀ i c, i < n + 1 → ρ[i]? = some (.cell c) → ∃ p ∈ l, σ[i]? = some (some (.ref p.1)) ∧ H p.1 = some p.2 ∧ RepO G.m H p.1 p.2 c)
    cases e : ρ[n]? with
    | none => exact other fun c z => by rw [e] at z; cases z
    | some s =>
      cases s with
      | cell c =>
        obtain ⟨a, o, g1, g2, g3, _⟩ := k.own n c e
        refine ⟨(a, o) :: l, ?_, ?_, ?_⟩
        · rw [List.map_cons]
          refine List.nodup_cons.mpr ⟨fun z => ?_, h1⟩
          obtain ⟨p, hp, e2⟩ := List.mem_map.mp z
          obtain ⟨i, c', a1, a2, a3, _⟩ := h2 p hp
          have e2 : p.1 = a := e2
          rw [e2] at a3
          exact k.sep i n c' c a (by omega) a2 e a3 g1
        · intro p hp
          rcases List.mem_cons.mp hp with z | hp
          · subst z; exact ⟨n, c, by omega, e, g1, g2, g3⟩
          · exact up p hp
        · intro i c' hi e'
          by_cases z : i = n
          · subst z
            rw [e] at e'; cases e'
            exact ⟨(a, o), List.mem_cons_self, g1, g2, g3⟩
          · obtain ⟨p, hp, q⟩ := h3 i c' (by omega) e'
            exact ⟨p, List.mem_cons_of_mem _ hp, q⟩
      | _ => exact other fun c z => by rw [e] at z; cases z
section
variable {X : Cx} {G : Gh} {W : WX} {e : Expr}
/-- .. a test -/
def lendT (f : M Bool) : M Bool := fun ρ => match f (dataE ρ) with
  | .ok b _ => .ok b ρ
  | _ => .stuck
end
def tLkT : List (Addr × HO) → TT → TT
  | [], t => t
  | p :: l, t => tLkT l fun σ H Q => H p.1 = some p.2 ∧ Mut (some p.2) ∧ ∀ od, t σ (upd H p.1 (.frz od p.2)) fun v H' => H' p.1 = some (.frz od p.2) ∧ Q v (upd H' p.1 p.2)
theorem pt_lock1 {X : Cx} {e : Expr} {t : TT} (h : PT X e t) : PT X e (fun σ H Q => ∃ d u, H d = some u ∧ Mut (some u) ∧ ∀ od, t σ (upd H d (.frz od u)) fun v H' => H' d = some (.frz od u) ∧ Q v (upd H' d u)) := by
  refine ⟨fun pins s σ H Q I hw => ?_⟩
  obtain ⟨d, u, hd, mu, hw⟩ := hw
  obtain ⟨od, I1⟩ := I.lock hd mu
  refine thn (h.run pins s σ _ _ I1 (hw od)) fun b s1 ⟨H1, I2, e2, q⟩ => ?_
  exact ⟨_, I2.unlock e2 (I.nofrz hd mu), q⟩
theorem pt_lk {X : Cx} {e : Expr} : ∀ {l : List (Addr × HO)} {t : TT}, PT X e t → PT X e (tLkT l t)
  | [], _, h => h
  | p :: l, t, h => pt_lk (l := l) (pt_imp (pt_lock1 h) fun σ H Q ⟨h1, h2, h3⟩ => ⟨p.1, p.2, h1, h2, h3⟩)
theorem tLkT_intro {t : TT} (mono : ∀ σ H (Q Q' : Bool → Hp → Prop), (∀ v H', Q v H' → Q' v H') → t σ H Q → t σ H Q') {σ : L2.St} : ∀ {l : List (Addr × HO)} {H : Hp} {Q : Bool → Hp → Prop}, (l.map (·.1)).Nodup → (∀ p ∈ l, H p.1 = some p.2 ∧ Mut (some p.2)) →
    (∀ HL, LockedBy H HL l → t σ HL fun v H' => (∀ p ∈ l, H' p.1 = HL p.1) ∧ ∀ H'', (∀ b, b ∉ l.map (·.1) → H'' b = H' b) → (∀ p ∈ l, H'' p.1 = some p.2) → Q v H'') → tLkT l t σ H Q := by
  intro l
  induction l generalizing t with
  | nil =>
    intro H Q _ _ h
    exact mono _ _ _ _ (fun v H' ⟨_, q⟩ => q H' (fun _ _ => rfl) (fun p hp => absurd hp List.not_mem_nil)) (h H ⟨fun _ _ => rfl, fun p hp => absurd hp List.not_mem_nil⟩)
  | cons p l ih =>
    intro H Q nd hl h
    rw [List.map_cons, List.nodup_cons] at nd
    refine ih (t := fun σ H Q => H p.1 = some p.2 ∧ Mut (some p.2) ∧ ∀ od, t σ (upd H p.1 (.frz od p.2)) fun v H' => H' p.1 = some (.frz od p.2) ∧ Q v (upd H' p.1 p.2)) ?_ nd.2 (fun q hq => hl q (List.mem_cons_of_mem _ hq)) ?_
    · intro σ H Q Q' hq ⟨h1, h2, h3⟩
      exact ⟨h1, h2, fun od => mono _ _ _ _ (fun v H' ⟨a, b⟩ => ⟨a, hq _ _ b⟩) (h3 od)⟩
    · intro HL lk
      refine ⟨by rw [lk.1 p.1 nd.1]; exact (hl p List.mem_cons_self).1, (hl p List.mem_cons_self).2, fun od => ?_⟩
      have lk2 : LockedBy H (upd HL p.1 (.frz od p.2)) (p :: l) := by
        refine ⟨fun b hb => ?_, fun q hq => ?_⟩
        · rw [List.map_cons, List.mem_cons, not_or] at hb
          rw [upd_ne hb.1, lk.1 b hb.2]
        · rcases List.mem_cons.mp hq with e | hq
          · subst e; exact ⟨od, upd_same⟩
          · rw [upd_ne (fun z => nd.1 (List.mem_map.mpr ⟨q, hq, z⟩))]; exact lk.2 q hq
      refine mono _ _ _ _ (fun v H' ⟨h1, h2⟩ => ⟨by rw [h1 p List.mem_cons_self, upd_same], fun q hq => ?_, fun H'' e1 e2 => ?_⟩) (h _ lk2)
      · have ne : q.1 ≠ p.1 := fun z => nd.1 (List.mem_map.mpr ⟨q, hq, z⟩)
        rw [upd_ne ne, h1 q (List.mem_cons_of_mem _ hq), upd_ne ne]
      · refine h2 H'' (fun b hb => ?_) (fun q hq => ?_)
        · rw [List.map_cons, List.mem_cons, not_or] at hb
          rw [e1 b hb.2, upd_ne hb.1]
        · rcases List.mem_cons.mp hq with e | hq
          · subst e; rw [e1 q.1 nd.1, upd_same]
          · exact e2 q hq
/-- the locked state, and the way back -/
theorem StOk.lent {G : Gh} {σ : L2.St} {H : Hp} {ρ : DL.Env} (k : StOk G σ H ρ) : ∃ l : List (Addr × HO), (l.map (·.1)).Nodup ∧ (∀ p ∈ l, H p.1 = some p.2 ∧ Mut (some p.2)) ∧ ∀ HL, LockedBy H HL l → StOk ⟨G.m, HL, [], G.ex⟩ σ HL (dataE ρ) ∧ Stable H HL ∧
    ∀ H' ρ', Stable HL H' → StOk ⟨G.m, HL, [], G.ex⟩ σ H' ρ' → (∀ p ∈ l, H' p.1 = HL p.1) ∧ ∀ H'', (∀ b, b ∉ l.map (·.1) → H'' b = H' b) → (∀ p ∈ l, H'' p.1 = some p.2) → Stable H H'' ∧ StOk G σ H'' ρ := by
  obtain ⟨l, nd, h2, h3⟩ := k.cells ρ.length (Nat.le_refl _)
  have h3 : ∀ (i : Nat) (c : OC), ρ[i]? = some (Sl.cell c) → ∃ p ∈ l, σ[i]? = some (some (V.ref p.1)) ∧ H p.1 = some p.2 ∧ RepO G.m H p.1 p.2 c := fun i c e => h3 i c (List.getElem?_eq_some_iff.mp e).1 e
  refine ⟨l, nd, fun p hp => ?_, fun HL lk => ?_⟩
  · obtain ⟨i, c, _, _, _, a, b⟩ := h2 p hp
    exact ⟨a, b.mt⟩
  have stl : Stable H HL := fun b o hb fx => by
    by_cases z : b ∈ l.map (·.1)
    · obtain ⟨p, hp, e⟩ := List.mem_map.mp z
      obtain ⟨i, c, _, _, _, a, b'⟩ := h2 p hp
      have e : p.1 = b := e
      rw [e, hb] at a; cases a
      exact absurd fx b'.nf
    · rw [lk.1 b z]; exact hb
  have rdl : ∀ p ∈ l, ∀ c, H p.1 = some p.2 → RepO G.m H p.1 p.2 c → Rep G.m HL (.ref p.1) (ocD c) := fun p hp c hH r => by
    obtain ⟨od, e⟩ := lk.2 p hp
    match c, r with
    | .l xs, ⟨vs, q, r⟩ => rw [q] at e; exact .lst (.inl ⟨od, e⟩) (r.st stl)
    | .k _ _, .inl ⟨kvs, q, q2, r⟩ => rw [q] at e; subst q2; exact .dicK e (r.st stl)
    | .k _ _, .inr ⟨kvs, q, n, q2, r1, r2⟩ => rw [q] at e; exact .dicN e n q2 (r1.st stl) (r2.st stl)
  refine ⟨?_, stl, fun H' ρ' s' k' => ⟨fun p hp => ?_, fun H'' e1 e2 => ?_⟩⟩
  · have at_ : ∀ {i : Nat} {s : Sl}, (dataE ρ)[i]? = some s → ∃ t, ρ[i]? = some t ∧ s = dataS t := fun {i s} h => by
      unfold dataE at h
      rw [List.getElem?_map] at h
      cases e : ρ[i]? with
      | none => rw [e] at h; cases h
      | some t => rw [e] at h; simp at h; exact ⟨t, rfl, h.symm⟩
    refine ⟨by unfold dataE; rw [List.length_map]; exact k.len, fun i x h => ?_, fun i c h => ?_, fun i j c c' a _ h => ?_, fun p hp => absurd hp List.not_mem_nil, fun b o h _ => h, fun i c h => ?_⟩
    · obtain ⟨t, e1, e2⟩ := at_ h
      cases t with
      | d y =>
        cases e2
        obtain ⟨v, g1, g2⟩ := k.dat i x e1
        exact ⟨v, g1, g2.st stl⟩
      | cell c =>
        cases e2
        obtain ⟨p, hp, g1, g2, g3⟩ := h3 i c e1
        exact ⟨_, g1, rdl p hp c g2 g3⟩
      | _ => cases e2
    · obtain ⟨t, e1, e2⟩ := at_ h
      cases t <;> cases e2
    · obtain ⟨t, e1, e2⟩ := at_ h
      cases t <;> cases e2
    · obtain ⟨t, e1, e2⟩ := at_ h
      cases t with
      | exn c' => cases e2; exact k.exn i c e1
      | _ => cases e2
  · obtain ⟨od, e⟩ := lk.2 p hp
    rw [e]; exact s' _ _ e trivial
  · have kp : ∀ b o, b ∉ l.map (·.1) → H b = some o → H'' b = some o := fun b o hb ho => by
      rw [e1 b hb]
      exact k'.keep b o (by show HL b = some o; rw [lk.1 b hb]; exact ho) fun p hp => absurd hp List.not_mem_nil
    have kpl : ∀ p ∈ l, H p.1 = some p.2 ∧ H'' p.1 = some p.2 := fun p hp => by
      obtain ⟨i, c, _, _, _, a, _⟩ := h2 p hp
      exact ⟨a, e2 p hp⟩
    have gr : Grow H H'' := fun b o hb => by
      by_cases z : b ∈ l.map (·.1)
      · obtain ⟨p, hp, e⟩ := List.mem_map.mp z
        have e : p.1 = b := e
        obtain ⟨a1, a2⟩ := kpl p hp
        rw [e] at a1 a2
        rw [hb] at a1; cases a1; exact a2
      · exact kp b o z hb
    exact ⟨gr.stable, k.grow gr⟩
section
variable {X : Cx} {G : Gh} {W : WX} {e : Expr}
theorem dt_lend {f : M Bool} (he : ∀ h, DT X ⟨G.m, h, [], G.ex⟩ W e f) : DT X G W e (lendT f) := by
  have hE : PT X e (fun σ H Q => ∃ h, tT ⟨G.m, h, [], G.ex⟩ W f σ H Q) := ⟨fun pins s σ H Q I ⟨h, q⟩ => (he h).run pins s σ H Q I q⟩
  refine ⟨fun pins s σ H Q I ⟨ρ, k, q⟩ => ?_⟩
  obtain ⟨l, nd, h2, h3⟩ := k.lent
  refine (pt_lk (l := l) hE).run pins s σ H Q I (tLkT_intro ?_ nd h2 fun HL lk => ?_)
  · intro σ H Q Q' hq ⟨h, ρ, k, q⟩
    exact ⟨h, ρ, k, q.mono fun d ρ1 H1 _ _ _ q1 => hq d H1 q1⟩
  · obtain ⟨kl, _, back⟩ := h3 HL lk
    refine ⟨HL, dataE ρ, kl, ?_⟩
    unfold lendT at q
    cases ef : f (dataE ρ) with
    | stuck => rw [ef] at q; exact q.elim
    | exc c ρ1 => rw [ef] at q; exact q.elim
    | ok b ρ1 =>
      rw [ef] at q
      intro H' s' k'
      obtain ⟨b1, b2⟩ := back H' ρ1 s' k'
      exact ⟨b1, fun H'' e1 e2 => q H'' (b2 H'' e1 e2).1 (b2 H'' e1 e2).2⟩
end
end DL
end
section
namespace DL
open PySem PySem.Spec L2 DLS
open PyProof.Rows hiding St
/-! ### dicts whose keys are tuples of numbers, texts, tuples -/
mutual
def keyX : D → Option NestedKey
  | .non => some .none
  | .int i => some (.num i)
  | .str x => some (.text x)
  | .tup ds => (keyXs ds).map .tup
  | _ => none
def keyXs : List D → Option (List NestedKey)
  | [] => some []
  | d :: ds => (keyX d).bind fun k => (keyXs ds).map (k :: ·)
end
mutual
theorem keyX_nk : ∀ k : NestedKey, keyX (nkD k) = some k
  | .none => rfl
  | .num _ => rfl
  | .text _ => rfl
  | .tup ks => by rw [nkD, keyX, keyXs_nk ks]; rfl
theorem keyXs_nk : ∀ ks : List NestedKey, keyXs (nkDs ks) = some ks
  | [] => rfl
  | k :: ks => by rw [nkDs, keyXs, keyX_nk k, keyXs_nk ks]; rfl
end
mutual
theorem nk_keyX : ∀ {d : D} {k : NestedKey}, keyX d = some k → nkD k = d
  | .non, k, h => by simp [keyX] at h; subst h; rfl
  | .int i, k, h => by simp [keyX] at h; subst h; rfl
  | .str i, k, h => by simp [keyX] at h; subst h; rfl
  | .tup ds, k, h => by
    simp only [keyX, Option.map_eq_some_iff] at h
    obtain ⟨ks, h1, rfl⟩ := h
    rw [nkD, nks_keyX h1]
  | .bl _, k, h => by simp [keyX] at h
  | .lst _, k, h => by simp [keyX] at h
  | .dic _ _, k, h => by simp [keyX] at h
  | .ins _ _ _, k, h => by simp [keyX] at h
theorem nks_keyX : ∀ {ds : List D} {ks : List NestedKey}, keyXs ds = some ks → nkDs ks = ds
  | [], ks, h => by simp [keyXs] at h; subst h; rfl
  | d :: ds, ks, h => by
    simp only [keyXs, Option.bind_eq_some_iff, Option.map_eq_some_iff] at h
    obtain ⟨k, h1, ks', h2, rfl⟩ := h
    rw [nkDs, nk_keyX h1, nks_keyX h2]
end
section
variable {m : Md} {H : Hp} {X : Cx} {pins : List (Addr × Obj)} {σ : L2.St} {s : Shared}
mutual
theorem keyX_is (I : Inv X pins σ H s) (hm : m.K = X.K) : ∀ {d : D} {v : V} {u : Value} {k : NestedKey}, Rep m H v d → keyX d = some k → L2.RelV v u → NestedIs s.heap k u
  | .non, v, u, k, r, h, ru => by
    simp [keyX] at h; subst h
    cases r
    cases ru
    exact .none
  | .int i, v, u, k, r, h, ru => by
    simp [keyX] at h; subst h
    cases r
    obtain ⟨t, rfl⟩ := ru
    exact .int _ _
  | .str i, v, u, k, r, h, ru => by
    simp [keyX] at h; subst h
    cases r
    obtain ⟨t, rfl⟩ := ru
    exact .text _ _
  | .tup ds, v, u, k, r, h, ru => by
    simp only [keyX, Option.map_eq_some_iff] at h
    obtain ⟨ks, h1, rfl⟩ := h
    cases r with
    | tup hq rl =>
      rw [hm] at hq
      obtain ⟨its, rv, ⟨o, ho, hc, n, hd⟩, _⟩ := I.tuple hq
      cases ru
      exact .tup ho hc hd (by simpa using keyXs_is I hm rl h1 rv)
  | .bl _, _, _, k, _, h, _ => by simp [keyX] at h
  | .lst _, _, _, k, _, h, _ => by simp [keyX] at h
  | .dic _ _, _, _, k, _, h, _ => by simp [keyX] at h
  | .ins _ _ _, _, _, k, _, h, _ => by simp [keyX] at h
theorem keyXs_is (I : Inv X pins σ H s) (hm : m.K = X.K) : ∀ {ds : List D} {vs : List V} {us : List Value} {ks : List NestedKey}, RepL m H vs ds → keyXs ds = some ks → Vals vs us → NestedAll s.heap ks us
  | [], _, _, ks, r, h, ru => by
    simp [keyXs] at h; subst h
    cases r
    cases ru
    exact .nil
  | d :: ds, _, _, ks, r, h, ru => by
    simp only [keyXs, Option.bind_eq_some_iff, Option.map_eq_some_iff] at h
    obtain ⟨k, h1, ks', h2, rfl⟩ := h
    cases r with
    | cons a b =>
      cases ru with
      | cons c e => exact .cons (keyX_is I hm a h1 c) (keyXs_is I hm b h2 e)
end
end
/-- a key that is a tuple -/
def isNK (d : D) : Bool := match d, keyX d with
  | .tup _, some k => decide (k.depth ≤ 8)
  | _, _ => false
theorem isNK_inv {d : D} (h : isNK d = true) : ∃ ds k, d = .tup ds ∧ keyX d = some k ∧ k.depth ≤ 8 := by
  unfold isNK at h
  split at h
  · rename_i ds k e
    exact ⟨ds, k, rfl, e, of_decide_eq_true h⟩
  · cases h
def sameN (a b : D) : Bool := match keyX a, keyX b with
  | some k, some j => decide (k = j)
  | _, _ => false
theorem sameN_key {k j : NestedKey} {d : D} (h : keyX d = some j) : sameN (nkD k) d = decide (k = j) := by unfold sameN; rw [keyX_nk, h]
def getN (x : D) : List D → List D → Option D
  | k :: ks, v :: vs => if sameN k x = true then some v else getN x ks vs
  | _, _ => none
def putN (x d : D) (ks vs : List D) : List D × List D :=
  if (ks.any fun k => sameN k x) = true then (ks, (ks.zip vs).map fun p => if sameN p.1 x = true then d else p.2) else (ks ++ [x], vs ++ [d])
/-- a dict with the entries kvs, read -/
structure Nd (m : Md) (H : Hp) (a : Addr) (kvs : List NEnt) (ks : List D) : Prop where
  ob : Rd H a (NdO m.w a kvs) ∨ kvs = [] ∧ Rd H a (.dK [])
  ks_ : ks = kvs.map fun p => nkD p.1
  rp : RepL m H (kvs.map fun p => V.ref p.2.1) ks
  nk : ks.all isNK = true
def rowsN (kvs : List NEnt) (us : List Value) : List (NestedKey × Addr × Value) := (kvs.zip us).map fun p => (p.1.1, p.1.2.1, p.2)
section
variable {m : Md} {H : Hp} {X : Cx} {pins : List (Addr × Obj)} {σ : L2.St} {s : Shared} {a : Addr} {kvs : List NEnt} {ks : List D}
theorem Nd.keys (n : Nd m H a kvs ks) (I : Inv X pins σ H s) (hm : m.K = X.K) : ∀ p ∈ kvs, (nestedKind X.prog X.w).is s.heap p.1 p.2.1 := fun p hp => by
  obtain ⟨i, hi, e⟩ := List.mem_iff_getElem.mp hp
  have e1 : (kvs.map fun p => V.ref p.2.1)[i]? = some (.ref p.2.1) := by rw [List.getElem?_map, List.getElem?_eq_getElem hi, e]; rfl
  obtain ⟨d, g1, g2⟩ := n.rp.getV e1
  have e2 : d = nkD p.1 := by
    rw [n.ks_, List.getElem?_map, List.getElem?_eq_getElem hi, e] at g1
    simpa using g1.symm
  have hk := List.all_eq_true.mp n.nk d (List.mem_of_getElem? g1)
  obtain ⟨ds, k, _, h1, h2⟩ := isNK_inv hk
  rw [e2, keyX_nk] at h1
  cases h1
  exact ⟨keyX_is I hm g2 (by rw [e2, keyX_nk]) rfl, h2⟩
theorem Nd.dict (n : Nd m H a kvs ks) (I : Inv X pins σ H s) (hm : m.K = X.K) (hw : m.w = X.w) : ∃ us, Vals (kvs.map (·.2.2)) us ∧ kvs.length ≤ sizeLine ∧ (a == sysModules) = false ∧ s.heap.DictOfH (nestedKind X.prog X.w) a (rowsN kvs us) := by
  have isk := n.keys I hm
  rcases n.ob with o | ⟨rfl, o⟩
  · obtain ⟨⟨z, hd, us, hv, ob, es, ep, h1, h2, h3, h4, h5⟩, _⟩ := (show ObjOk X.prog X.w H s.heap a (NdO m.w a kvs) from Rd.ok o I.hok)
    refine ⟨us, hv, z, hd, ob, es, ep, h1, h2, h3, ?_, ?_, ?_⟩
    · rw [h4, rowsN, List.map_map, hw]; rfl
    · intro x hx
      obtain ⟨p, hp, rfl⟩ := List.mem_map.mp hx
      exact isk p.1 (List.of_mem_zip hp).1
    · have hl : kvs.length = us.length := by have := hv.length; simpa using this
      have : (rowsN kvs us).map (·.1) = kvs.map (·.1) := by
        unfold rowsN
        rw [List.map_map]
        have e : ((fun x : NestedKey × Addr × Value => x.1) ∘ fun p : NEnt × Value => (p.1.1, p.1.2.1, p.2)) = (fun p : NEnt => p.1) ∘ Prod.fst := rfl
        rw [e, ← List.map_map, List.map_fst_zip (by omega)]
      rw [this]; exact h5
  · obtain ⟨z, hd, vs, rel, ob, es, ep, h1, h2, h3, h4, h5, h6⟩ := dk_rd I.hok o
    have ev : vs = [] := by cases rel; rfl
    subst ev
    refine ⟨[], .nil, Nat.zero_le _, hd, ob, es, ep, h1, h2, h3, ?_, fun x hx => absurd hx List.not_mem_nil, List.nodup_nil⟩
    cases q : es.toList with
    | nil => rfl
    | cons x l => rw [q] at h5; cases h5
theorem at_rows {x : D} {k : NestedKey} (hk : keyX x = some k) : ∀ {kvs : List NEnt} {us : List Value} {ds : List D}, Vals (kvs.map (·.2.2)) us → RepL m H (kvs.map (·.2.2)) ds →
    (∀ d, getN x (kvs.map fun p => nkD p.1) ds = some d → ∃ b v u, atKey (rowsN kvs us) k = some (b, u) ∧ L2.RelV v u ∧ Rep m H v d) ∧ (getN x (kvs.map fun p => nkD p.1) ds = none → atKey (rowsN kvs us) k = none)
  | [], us, ds, hv, r => by
    cases r; cases hv
    exact ⟨fun d h => by simp [getN] at h, fun _ => rfl⟩
  | p :: l, us, ds, hv, r => by
    cases r with
    | cons r1 r2 =>
      cases hv with
      | cons v1 v2 =>
        rename_i d0 ds u us
        obtain ⟨i1, i2⟩ := at_rows hk v2 r2
        by_cases c : p.1 = k
        · have e : atKey (rowsN (p :: l) (u :: us)) k = some (p.2.1, u) := by simp [rowsN, atKey, c]
          refine ⟨fun d h => ?_, fun h => ?_⟩
          · simp only [List.map_cons, getN, sameN_key hk, c, decide_true, if_true] at h
            cases h
            exact ⟨_, _, _, e, v1, r1⟩
          · simp only [List.map_cons, getN, sameN_key hk, c, decide_true, if_true] at h
            cases h
        · have e : atKey (rowsN (p :: l) (u :: us)) k = atKey (rowsN l us) k := by simp [rowsN, atKey, c]
          rw [e]
          simp only [List.map_cons, getN, sameN_key hk, c, decide_false]
          exact ⟨i1, i2⟩
end
theorem any_get {x : D} : ∀ {ks ds : List D}, ks.length = ds.length → (ks.any fun k => sameN k x) = (getN x ks ds).isSome
  | [], [], _ => rfl
  | k :: ks, [], h => by simp at h
  | [], d :: ds, h => by simp at h
  | k :: ks, d :: ds, h => by
    rw [List.any_cons, getN]
    by_cases c : sameN k x = true
    · simp [c]
    · simp only [c, Bool.false_or, if_false]
      exact any_get (by simpa using h)
/-! reading -/
def inN (x y : D) : Option D := match y with
  | .dic ks _ => if (isNK x && ks.all isNK) = true then some (.bl (ks.any fun k => sameN k x)) else none
  | _ => none
def ninN (x y : D) : Option D := match y with
  | .dic ks _ => if (isNK x && ks.all isNK) = true then some (.bl (!ks.any fun k => sameN k x)) else none
  | _ => none
def ixN' (y x : D) : Option D := match y with
  | .dic ks vs => if (isNK x && ks.all isNK) = true then getN x ks vs else none
  | _ => none
/-- y is a dict (frozen or own) with entries, x a key of its kind -/
def NdK (m : Md) (H : Hp) (x : V) (k : NestedKey) : Prop := ∃ b d, x = V.ref b ∧ Rep m H (.ref b) d ∧ keyX d = some k ∧ k.depth ≤ 8
def rInN (m : Md) : R2 := fun x y H Q => ∃ a kvs ks ds k d, y = .ref a ∧ Nd m H a kvs ks ∧ RepL m H (kvs.map (·.2.2)) ds ∧ NdK m H x k ∧ keyX d = some k ∧ Q (.bl (getN d ks ds).isSome) H
def rNinN (m : Md) : R2 := fun x y H Q => ∃ a kvs ks ds k d, y = .ref a ∧ Nd m H a kvs ks ∧ RepL m H (kvs.map (·.2.2)) ds ∧ NdK m H x k ∧ keyX d = some k ∧ Q (.bl (!(getN d ks ds).isSome)) H
def rIxN (m : Md) : R2 := fun y x H Q => ∃ a kvs ks ds k d e, y = .ref a ∧ Nd m H a kvs ks ∧ RepL m H (kvs.map (·.2.2)) ds ∧ NdK m H x k ∧ keyX d = some k ∧ getN d ks ds = some e ∧ ∀ v, Rep m H v e → Q v H
section
variable {m : Md} {X : Cx}
theorem some_rows {H : Hp} {kvs : List NEnt} {us : List Value} {ds ks : List D} {d : D} {k : NestedKey} (hk : keyX d = some k) (hv : Vals (kvs.map (·.2.2)) us) (r : RepL m H (kvs.map (·.2.2)) ds) (e : ks = kvs.map fun p => nkD p.1) : (atKey (rowsN kvs us) k).isSome = (getN d ks ds).isSome := by
  subst e
  obtain ⟨i1, i2⟩ := at_rows hk hv r
  cases g : getN d (kvs.map fun p => nkD p.1) ds with
  | none => rw [i2 g]; rfl
  | some z => obtain ⟨b, v, u, h, _⟩ := i1 z g; rw [h]; rfl
theorem op_inN (hm : m = ⟨X.K, X.mg, X.w⟩) (hv : X.A.units + 130 < cLine) : OpR X (compareOp .In) (rInN m) := by
  intro pins s σ H x y v u Q I rx ry ⟨a, kvs, ks, ds, k, d, ey, n, r, ⟨b, d', ex, rb, kd, kp⟩, hk, q⟩
  subst ey ex
  cases rx; cases ry
  obtain ⟨us, h1, _, h3, h4⟩ := n.dict I (by rw [hm]) (by rw [hm])
  refine wpAny_in_heap (knd := nestedKind X.prog X.w) (show X.A.units + 1 + 8 < cLine by omega) ⟨keyX_is I (by rw [hm]) rb kd rfl, kp⟩ h3 h4 ?_
  rw [some_rows hk h1 r n.ks_]
  exact ⟨.bl _, H, I.kept fun _ _ z => z, rfl, q⟩
theorem op_ninN (hm : m = ⟨X.K, X.mg, X.w⟩) (hv : X.A.units + 130 < cLine) : OpR X (compareOp .NotIn) (rNinN m) := by
  intro pins s σ H x y v u Q I rx ry ⟨a, kvs, ks, ds, k, d, ey, n, r, ⟨b, d', ex, rb, kd, kp⟩, hk, q⟩
  subst ey ex
  cases rx; cases ry
  obtain ⟨us, h1, _, h3, h4⟩ := n.dict I (by rw [hm]) (by rw [hm])
  refine notIn_keyed (knd := nestedKind X.prog X.w) (show X.A.units + 1 + 8 < cLine by omega) ⟨keyX_is I (by rw [hm]) rb kd rfl, kp⟩ h3 ⟨_, h4, rfl⟩ ?_
  rw [valueAt_pairsH, Option.isSome_map, some_rows hk h1 r n.ks_]
  exact ⟨.bl _, H, I.kept fun _ _ z => z, rfl, q⟩
theorem ix_N (hm : m = ⟨X.K, X.mg, X.w⟩) (hv : X.A.units + 130 < cLine) : IxR X (rIxN m) := by
  intro value slice pins s σ H y x v u Q I ry rx ⟨a, kvs, ks, ds, k, d, e, ey, n, r, ⟨b, d', ex, rb, kd, kp⟩, hk, hg, q⟩ hs
  subst ey ex
  cases rx; cases ry
  obtain ⟨us, h1, _, h3, h4⟩ := n.dict I (by rw [hm]) (by rw [hm])
  rw [n.ks_] at hg
  obtain ⟨b', v', u', g1, g2, g3⟩ := (at_rows hk h1 r).1 e hg
  refine tail_any h4.typeIs slot_dict_getitem.lookup (wpAny_getItem_heap (knd := nestedKind X.prog X.w) (show X.A.units + 1 + 8 < cLine by omega) ⟨keyX_is I (by rw [hm]) rb kd rfl, kp⟩ h4 g1 ?_) hs
  exact ⟨v', H, I.kept fun _ _ z => z, g2, q v' g3⟩
theorem ndK_of {H : Hp} {x : V} {dx : D} (r : Rep m H x dx) (h : isNK dx = true) : ∃ k, NdK m H x k ∧ keyX dx = some k := by
  obtain ⟨ds, k, rfl, h1, h2⟩ := isNK_inv h
  cases r with
  | tup q rl => exact ⟨k, ⟨_, _, rfl, .tup q rl, h1, h2⟩, h1⟩
/-- a frozen dict with nested keys (or the empty one) -/
theorem nd_frz {H : Hp} {y : V} {ks ds : List D} (r : Rep m H y (.dic ks ds)) (h : ks.all isNK = true) : ∃ a kvs, y = .ref a ∧ Nd m H a kvs ks ∧ RepL m H (kvs.map (·.2.2)) ds ∧ ks.length = ds.length := by
  cases r with
  | @dicK a o kvs _ q rl =>
    cases kvs with
    | nil =>
      cases rl
      exact ⟨a, [], rfl, ⟨.inr ⟨rfl, .inr ⟨o, q⟩⟩, rfl, .nil, rfl⟩, .nil, rfl⟩
    | cons p l =>
      rw [List.map_cons, List.all_cons, Bool.and_eq_true] at h
      obtain ⟨k, v⟩ := p
      cases k <;> exact absurd h.1 (by simp [keyD, isNK])
  | @dicN a o kvs _ _ q n e r1 r2 => exact ⟨a, kvs, rfl, ⟨.inl (.inr ⟨o, q⟩), e, r1, h⟩, r2, by rw [← r1.len, ← r2.len]; simp⟩
theorem opd_inN : OpD m (rInN m) inN := fun x y dx dy d H Q rx ry e k => by
  unfold inN at e
  split at e
  · rename_i ks ds
    by_cases c : (isNK dx && ks.all isNK) = true
    · rw [if_pos c] at e; cases e
      rw [Bool.and_eq_true] at c
      obtain ⟨a, kvs, rfl, n, r, hl⟩ := nd_frz ry c.2
      obtain ⟨ky, h1, h2⟩ := ndK_of rx c.1
      exact ⟨a, kvs, ks, ds, ky, dx, rfl, n, r, h1, h2, k _ H Grow.rfl (by rw [← any_get hl]; exact .bl _)⟩
    · rw [if_neg c] at e; cases e
  · cases e
theorem opd_ninN : OpD m (rNinN m) ninN := fun x y dx dy d H Q rx ry e k => by
  unfold ninN at e
  split at e
  · rename_i ks ds
    by_cases c : (isNK dx && ks.all isNK) = true
    · rw [if_pos c] at e; cases e
      rw [Bool.and_eq_true] at c
      obtain ⟨a, kvs, rfl, n, r, hl⟩ := nd_frz ry c.2
      obtain ⟨ky, h1, h2⟩ := ndK_of rx c.1
      exact ⟨a, kvs, ks, ds, ky, dx, rfl, n, r, h1, h2, k _ H Grow.rfl (by rw [← any_get hl]; exact .bl _)⟩
    · rw [if_neg c] at e; cases e
  · cases e
theorem opd_ixN : OpD m (rIxN m) ixN' := fun y x dy dx d H Q ry rx e k => by
  unfold ixN' at e
  split at e
  · rename_i ks ds
    by_cases c : (isNK dx && ks.all isNK) = true
    · rw [if_pos c] at e
      rw [Bool.and_eq_true] at c
      obtain ⟨a, kvs, rfl, n, r, hl⟩ := nd_frz ry c.2
      obtain ⟨ky, h1, h2⟩ := ndK_of rx c.1
      exact ⟨a, kvs, ks, ds, ky, dx, d, rfl, n, r, h1, h2, e, fun v rv => k v H Grow.rfl rv⟩
    · rw [if_neg c] at e; cases e
  · cases e
end
end DL
end
section
namespace DL
open PySem PySem.Spec L2 DLS
open PyProof.Rows hiding St
/-! ### d[k] = v, d an own dict with nested keys -/
def putE (kvs : List NEnt) (k : NestedKey) (b : Addr) (v : V) : List NEnt :=
  if (kvs.any fun p => decide (p.1 = k)) = true then kvs.map fun p => if p.1 = k then (p.1, p.2.1, v) else p else kvs ++ [(k, b, v)]
theorem putE_len (kvs : List NEnt) (k : NestedKey) (b : Addr) (v : V) : (putE kvs k b v).length ≤ kvs.length + 1 := by
  unfold putE
  split
  · rw [List.length_map]; omega
  · simp
theorem putE_ne (kvs : List NEnt) (k : NestedKey) (b : Addr) (v : V) : putE kvs k b v ≠ [] := by
  unfold putE
  split
  · rename_i h
    intro z
    have : kvs = [] := by simpa using z
    subst this
    simp at h
  · simp
theorem any_rows {kvs : List NEnt} {us : List Value} (hl : kvs.length = us.length) (k : NestedKey) : (atKey (rowsN kvs us) k).isSome = kvs.any fun p => decide (p.1 = k) := by
  induction kvs generalizing us with
  | nil => cases us <;> simp [rowsN, atKey]
  | cons p l ih =>
    cases us with
    | nil => simp at hl
    | cons u us =>
      have ih := ih (us := us) (by simpa using hl)
      by_cases c : p.1 = k
      · simp [rowsN, atKey, c]
      · simpa [rowsN, atKey, c] using ih
theorem stored_rows {k : NestedKey} {b : Addr} {v : V} {u : Value} (rv : L2.RelV v u) : ∀ {kvs : List NEnt} {us : List Value}, Vals (kvs.map (·.2.2)) us → ∃ us', Vals ((putE kvs k b v).map (·.2.2)) us' ∧ storedH (rowsN kvs us) k b u = rowsN (putE kvs k b v) us' := by
  intro kvs us hv
  have hl : kvs.length = us.length := by have := hv.length; simpa using this
  unfold storedH putE
  rw [any_rows hl]
  by_cases c : (kvs.any fun p => decide (p.1 = k)) = true
  · rw [if_pos c, if_pos c]
    clear c
    induction kvs generalizing us with
    | nil =>
      cases us with
      | nil => exact ⟨[], .nil, rfl⟩
      | cons u us => simp at hl
    | cons p l ih =>
      cases us with
      | nil => simp at hl
      | cons u0 us =>
        cases hv with
        | cons v1 v2 =>
          obtain ⟨us', h1, h2⟩ := ih v2 (by simpa using hl)
          by_cases c : p.1 = k
          · refine ⟨u :: us', ?_, ?_⟩
            · simp only [List.map_cons, c, if_true]; exact .cons rv h1
            · simp only [rowsN, List.zip_cons_cons, List.map_cons, putAt, c, if_true] at h2 ⊢
              rw [h2]
          · refine ⟨u0 :: us', ?_, ?_⟩
            · simp only [List.map_cons, c, if_false]; exact .cons v1 h1
            · simp only [rowsN, List.zip_cons_cons, List.map_cons, putAt, c, if_false] at h2 ⊢
              rw [h2]
  · rw [if_neg c, if_neg c]
    refine ⟨us ++ [u], ?_, ?_⟩
    · rw [List.map_append]
      exact hv.append (.cons rv .nil)
    · unfold rowsN
      rw [List.zip_append hl, List.map_append]; rfl
def rSetNd (m : Md) : TSet := fun o i v H Q => ∃ a kvs ks k b d, o = .ref a ∧ (H a = some (NdO m.w a kvs) ∨ kvs = [] ∧ H a = some (.dK [])) ∧ Nd m H a kvs ks ∧ i = .ref b ∧ Rep m H (.ref b) d ∧ keyX d = some k ∧ k.depth ≤ 8 ∧ kvs.length < sizeLine ∧ Q (upd H a (NdO m.w a (putE kvs k b v)))
section
variable {m : Md} {X : Cx}
theorem set_N (hm : m = ⟨X.K, X.mg, X.w⟩) (hv : X.A.units + 130 < cLine) : PSet X (rSetNd m) := by
  intro pins s σ H o i v ov iv u Q I ro ri rv ⟨a, kvs, ks, k, b, d, eo, ob, n, ei, rb, kd, kp, hl, q⟩
  subst eo ei
  cases (show ov = Value.ref a from ro)
  cases (show iv = Value.ref b from ri)
  obtain ⟨us, h1, h2, h3, h4⟩ := n.dict I (by rw [hm]) (by rw [hm])
  have len : (rowsN kvs us).length ≤ sizeLine := by
    unfold rowsN; rw [List.length_map, List.length_zip]; omega
  refine wpAny_setItem_heap (knd := nestedKind X.prog X.w) (show X.A.units + 1 + 8 < cLine by omega) ⟨keyX_is I (by rw [hm]) rb kd rfl, kp⟩ h4 (fun h' dd hs => ?_) len
  obtain ⟨us', g1, g2⟩ := stored_rows (k := k) (b := b) rv h1
  rw [g2] at dd
  obtain ⟨o', es, ep, e1, e2, e3, e4, e5, e6⟩ := dd
  have mu : Mut (H a) := by rcases ob with z | ⟨_, z⟩ <;> (rw [z]; trivial)
  have hl' : (putE kvs k b v).length = us'.length := by have := g1.length; simpa using this
  have nod : ((putE kvs k b v).map (·.1)).Nodup := by
    have : (rowsN (putE kvs k b v) us').map (·.1) = (putE kvs k b v).map (·.1) := by
      unfold rowsN
      rw [List.map_map]
      have e : ((fun x : NestedKey × Addr × Value => x.1) ∘ fun p : NEnt × Value => (p.1.1, p.1.2.1, p.2)) = (fun p : NEnt => p.1) ∘ Prod.fst := rfl
      rw [e, ← List.map_map, List.map_fst_zip (by omega)]
    rw [← this]; exact e6
  have hw : m.w = X.w := by rw [hm]
  have phi : ∀ h2 : Heap, (∀ o, h'.get? a = some o → h2.get? a = some o) → NdH m.w a (putE kvs k b v) h2 := fun h2 kp2 =>
    ⟨by have := putE_len kvs k b v; omega, h3, us', g1, o', es, ep, kp2 o' e1, e2, e3, by rw [e4, rowsN, List.map_map, hw]; rfl, nod⟩
  refine ⟨_, d_write (ob := NdO m.w a (putE kvs k b v)) I mu hs ⟨o', e1⟩ ⟨phi h' fun _ z => z, ⟨o', e1⟩, fun h1 h2 ⟨z, hd, us2, w1, o2, es2, ep2, w2, w3⟩ kp2 => ⟨z, hd, us2, w1, o2, es2, ep2, kp2 o2 w2, w3⟩⟩, q⟩
theorem putN_rep {H : Hp} {d dv : D} {k : NestedKey} {b : Addr} {v : V} (rb : Rep m H (.ref b) d) (kd : keyX d = some k) (rv : Rep m H v dv) {kvs : List NEnt} {ds : List D} (r1 : RepL m H (kvs.map fun p => V.ref p.2.1) (kvs.map fun p => nkD p.1)) (r2 : RepL m H (kvs.map (·.2.2)) ds) :
    (putN d dv (kvs.map fun p => nkD p.1) ds).1 = (putE kvs k b v).map (fun p => nkD p.1) ∧ RepL m H ((putE kvs k b v).map fun p => V.ref p.2.1) ((putE kvs k b v).map fun p => nkD p.1) ∧ RepL m H ((putE kvs k b v).map (·.2.2)) (putN d dv (kvs.map fun p => nkD p.1) ds).2 := by
  have ea : ((kvs.map fun p => nkD p.1).any fun k' => sameN k' d) = kvs.any fun p => decide (p.1 = k) := by
    rw [List.any_map]
    congr 1
    funext p
    exact sameN_key kd
  unfold putN putE
  rw [ea]
  by_cases z : (kvs.any fun p => decide (p.1 = k)) = true
  · rw [if_pos z, if_pos z]
    have e1 : ∀ {β : Type} (f : NEnt → β) (hf : ∀ (p : NEnt) (v : V), f (p.1, p.2.1, v) = f p), (kvs.map fun p => if p.1 = k then (p.1, p.2.1, v) else p).map f = kvs.map f := fun f hf => by
      rw [List.map_map]
      refine List.map_congr_left fun p _ => ?_
      by_cases c : p.1 = k
      · simp only [Function.comp, c, if_true]; rw [← c]; exact hf p v
      · simp only [Function.comp, c, if_false]
    refine ⟨(e1 _ fun _ _ => rfl).symm, by rw [e1 _ fun _ _ => rfl, e1 _ fun _ _ => rfl]; exact r1, ?_⟩
    clear ea z e1 r1
    induction kvs generalizing ds with
    | nil => cases r2; exact .nil
    | cons p l ih =>
      cases r2 with
      | cons a1 a2 =>
        simp only [List.map_cons, List.zip_cons_cons]
        refine .cons ?_ (ih a2)
        rw [sameN_key kd]
        by_cases c : p.1 = k
        · simp only [c, if_true, decide_true]; exact rv
        · simp only [c, if_false, decide_false]; exact a1
  · rw [if_neg z, if_neg z]
    simp only [List.map_append, List.map_cons, List.map_nil]
    have : nkD k = d := nk_keyX kd
    exact ⟨by rw [this], r1.append (.cons (by rw [this]; exact rb) .nil), r2.append (.cons rv .nil)⟩
/-- d[k] = v -/
def setND (c : OC) (k d : D) : Option OC := match c with
  | .k ks vs => if (isNK k && ks.all isNK) = true ∧ ks.length < sizeLine then some (.k (putN k d ks vs).1 (putN k d ks vs).2) else none
  | _ => none
/-- an own dict with nested keys (or the empty one) -/
theorem nd_own {H : Hp} {a : Addr} {o : HO} {ks ds : List D} (e : H a = some o) (r : RepO m H a o (.k ks ds)) (h : ks.all isNK = true) : ∃ kvs, (H a = some (NdO m.w a kvs) ∨ kvs = [] ∧ H a = some (.dK [])) ∧ Nd m H a kvs ks ∧ RepL m H (kvs.map (·.2.2)) ds ∧ ks.length = ds.length := by
  rcases r with ⟨kvs, rfl, rfl, r⟩ | ⟨kvs, rfl, n, e2, r1, r2⟩
  · cases kvs with
    | nil =>
      cases r
      exact ⟨[], .inr ⟨rfl, e⟩, ⟨.inr ⟨rfl, .inl e⟩, rfl, .nil, rfl⟩, .nil, rfl⟩
    | cons p l =>
      rw [List.map_cons, List.all_cons, Bool.and_eq_true] at h
      obtain ⟨k, v⟩ := p
      cases k <;> exact absurd h.1 (by simp [keyD, isNK])
  · exact ⟨kvs, .inl e, ⟨.inl (.inl e), e2, r1, h⟩, r2, by rw [← r1.len, ← r2.len]; simp⟩
theorem setc_N : SetC m (rSetNd m) setND := fun a o y v c c' dy d H Q ha ro ry rv e k => by
  unfold setND at e
  cases c with
  | l xs => cases e
  | k ks vs =>
    by_cases h : (isNK dy && ks.all isNK) = true ∧ ks.length < sizeLine
    · simp only [h, and_self, if_true] at e
      cases e
      obtain ⟨h1, h2⟩ := h
      rw [Bool.and_eq_true] at h1
      obtain ⟨kvs, ob, n, r, hl⟩ := nd_own ha ro h1.2
      obtain ⟨ky, ⟨b, d', rfl, rb, kd, kp⟩, kd'⟩ := ndK_of ry h1.1
      have r1 := n.rp
      have e2 := n.ks_
      rw [e2] at r1
      obtain ⟨w1, w2, w3⟩ := putN_rep (b := b) ry kd' rv r1 r
      have hk : kvs.length < sizeLine := by rw [e2] at h2; simpa using h2
      refine ⟨a, kvs, ks, ky, b, d', rfl, ob, n, rfl, rb, kd, kp, hk, ?_⟩
      rw [← e2] at w1 w3
      refine k _ (.inr ⟨_, rfl, putE_ne _ _ _ _, w1, by rw [w1]; exact w2, w3⟩)
    · simp only [h, if_false] at e; cases e
/-! ### all kinds of dicts -/
theorem pset_or {r r' : TSet} (h : PSet X r) (h' : PSet X r') : PSet X (fun o i v H Q => r o i v H Q ∨ r' o i v H Q) := by
  intro pins s σ H o i v ov iv u Q I ro ri rv q
  rcases q with q | q
  · exact h pins s σ H o i v ov iv u Q I ro ri rv q
  · exact h' pins s σ H o i v ov iv u Q I ro ri rv q
theorem SetC.or {r r' : TSet} {g g' : OC → D → D → Option OC} (h : SetC m r g) (h' : SetC m r' g') : SetC m (fun o i v H Q => r o i v H Q ∨ r' o i v H Q) (fun c k d => (g c k d).or (g' c k d)) := fun a o y v c c' dy d H Q ha ro ry rv e k => by
  have e : (g c dy d).or (g' c dy d) = some c' := e
  cases q : g c dy d with
  | some z => rw [q] at e; cases e; exact .inl (h a o y v c _ dy d H Q ha ro ry rv q k)
  | none => rw [q] at e; exact .inr (h' a o y v c c' dy d H Q ha ro ry rv e k)
def setAD (c : OC) (k d : D) : Option OC := (setKD c k d).or (setND c k d)
def rSetA (m : Md) : TSet := fun o i v H Q => rSetD o i v H Q ∨ rSetNd m o i v H Q
theorem set_A (hv : X.A.units + 130 < cLine) : PSet X (rSetA ⟨X.K, X.mg, X.w⟩) := pset_or (set_dict (X := X) (by omega)) (set_N rfl hv)
theorem setc_A : SetC m (rSetA m) setAD := setc_flat.or setc_N
def opC (i : Nat) (g : OC → D → Option D) (fb : M D) : M D := bindM fb fun y => bindM (getC i) fun c => liftM (g c y)
/-- flat and nested -/
def ixC (c : OC) (y : D) : Option D := match c with
  | .k ks vs => if (isK y && ks.all isK) = true then dicGet y ks vs else if (isNK y && ks.all isNK) = true then getN y ks vs else none
  | .l _ => none
/-! data -/
def inX (x y : D) : Option D := (inD x y).or (inN x y)
def ninX (x y : D) : Option D := (ninD x y).or (ninN x y)
def ixX (x y : D) : Option D := (ixG x y).or (ixN' x y)
def rInX (m : Md) : R2 := fun x y H Q => rInA m.K x y H Q ∨ rInN m x y H Q
def rNinX (m : Md) : R2 := fun x y H Q => rNinA m.K x y H Q ∨ rNinN m x y H Q
def rIxX (m : Md) : R2 := fun x y H Q => rIxG m.K x y H Q ∨ rIxN m x y H Q
theorem op_inX (hv : X.A.units + 130 < cLine) : OpR X (compareOp .In) (rInX ⟨X.K, X.mg, X.w⟩) := (op_inA hv).or (op_inN rfl hv)
theorem op_ninX (hv : X.A.units + 130 < cLine) : OpR X (compareOp .NotIn) (rNinX ⟨X.K, X.mg, X.w⟩) := (op_ninA hv).or (op_ninN rfl hv)
theorem ix_X (hv : X.A.units + 130 < cLine) : IxR X (rIxX ⟨X.K, X.mg, X.w⟩) := (ix_G hv).or (ix_N rfl hv)
theorem opd_inX : OpD m (rInX m) inX := opd_in.or opd_inN
theorem opd_ninX : OpD m (rNinX m) ninX := opd_nin.or opd_ninN
theorem opd_ixX : OpD m (rIxX m) ixX := opd_ixG.or opd_ixN
end
/-! ### is True, is False -/
section
variable {m : Md}
end
end DL
end
section
namespace DL
open PySem PySem.Spec L2 DLS
open PyProof.Rows hiding St
/-! ### t[::-1], a tuple or a list -/
section
variable {prog : Program} {w : World} {A : Around} {E : Value → Shared → Prop} {s : Shared}
end
section
variable {X : Cx}
end
section
variable {X : Cx} {G : Gh} {W : WX} {e : Expr} {pos p2 : Pos}
end
end DL
end
section
namespace DL
open PySem PySem.Spec L2 DLS
open PyProof.Rows hiding St
/-! ### a tuple whose last is a container of the def's own -/
/-- the arguments: data, the last a slot -/
def splitA : List Ag → Option (List D × Nat)
  | [.sl i] => some ([], i)
  | .d x :: r => (splitA r).map fun z => (x :: z.1, z.2)
  | _ => none
def tupT (i : Nat) (fa : M (List Ag)) : M D := bindM fa fun ags ρ => match splitA ags with
  | some z => if z.2 = i ∧ ags.length ≤ sizeLine then (match ρ[i]? with
    | some (.cell c) => .ok (.tup (z.1 ++ [ocD c])) (ρ.set i .no)
    | _ => .stuck) else .stuck
  | none => .stuck
abbrev TgxF := List D → OC → DL.Env → Option DL.Env
def asgX (n : Nat) (f : M D) (t : TgxF) : MS := bindM f fun d ρ => match splitT d with
  | some z => if z.1.length + 1 = n then (match t z.1 z.2 ρ with
    | some ρ' => .ok .nx ρ'
    | none => .stuck) else .stuck
  | none => .stuck
section
variable {X : Cx} {G : Gh} {W : WX} {e a b : Expr} {es : List Expr} {pos p : Pos} {rm : RM} {x : Str} {j k : Nat} {md : List Bool} {f : Fn} {fa : M (List Ag)}
/-! targets -/
end
end DL
end
section
namespace DL
open PySem PySem.Spec L2 PySem.SeqAt
open PyProof.Rows hiding St
/-! ### min of a list of alike data -/
section
variable {prog : Program} {w : World} {A : Around} {E : Value → Shared → Prop} {s : Shared}
end
def notNon : D → Bool
  | .non => false
  | _ => true
def ixMin (ds : List D) : Nat := argBest (fun i j => dLt (ds.getD i .non) (ds.getD j .non)) (ds.length - 1)
def minA : List D → Option D
  | [.lst ds] => if (ds.all okD && ((ds.all fun d => ds.all fun e => PySem.W.alike (toPy d) (toPy e)) && ds.all notNon)) = true then ds[ixMin ds]? else none
  | _ => none
def minAD (ds : List D) : Option D := (minLD ds).or (minA ds)
end DL
end
section
/-! list(range(a, b, -1)) -/
namespace DL
open PySem PySem.Spec L2
open PyProof.Rows hiding St
section
variable {X : Cx} {G : Gh} {W : WX} {a b c : Expr} {p p2 pos pos2 : PySem.Pos} {f : M (List D)}
end
end DL
end
section
namespace DL
end DL
end
section
/-! texts: a text in a text, a whole number of a text; a module's list of texts -/
namespace DL
open PySem PySem.Spec L2
open PyProof.Rows hiding St
/-! ### a text in a text -/
def hasT (w z : Str) : Bool := !(Builtin.Str.occurrences z w 0 z.length 1).isEmpty
def inW (x y : D) : Option D := match x, y with
  | .str w, .str z => some (.bl (hasT w z))
  | _, _ => none
def rInW : R2 := fun x y H Q => ∃ w z : Str, x = .str w ∧ y = .str z ∧ Q (.bl (hasT w z)) H
theorem op_inW {X : Cx} : OpR X (compareOp .In) rInW := by
  intro pins s σ H x y v u Q I rx ry h
  obtain ⟨c, z, rfl, rfl, q⟩ := h
  obtain ⟨t, rfl⟩ := rx
  obtain ⟨t', rfl⟩ := ry
  exact PyProof.Rows.in_str ⟨.bl _, H, I, rfl, q⟩
theorem opd_inW {m : Md} : OpD m rInW inW := fun x y dx dy d H Q rx ry e k => by
  cases rx with
  | str w =>
    cases ry with
    | str z => cases e; exact ⟨w, z, rfl, rfl, k _ H Grow.rfl (.bl _)⟩
    | _ => cases e
  | _ => cases e
/-! ### int(text) -/
def intTD : List D → Option D
  | [.str z] => if z.length ≤ 640 then (PySem.intText? z).map fun n => .int n else none
  | _ => none
def rIntT : List V → Hp → VK → Prop := fun xs H Q => ∃ (z : Str) (n : Int), xs = [.str z] ∧ z.length ≤ 640 ∧ PySem.intText? z = some n ∧ Q (.int n) H
theorem call_intT {X : Cx} : CallR X (.type "int") rIntT := by
  intro pins s σ H xs us Q I r h
  obtain ⟨z, n, rfl, hl, hn, q⟩ := h
  obtain ⟨u, rfl, t, rfl⟩ := vals1 r
  exact PySem.W.KIN.call_text hn hl ⟨.int n, H, I.tok _, ⟨_, rfl⟩, q⟩
theorem cd_intT {m : Md} : CallD m rIntT intTD := fun vs ds d H Q r e k => by
  unfold intTD at e
  split at e
  · obtain ⟨v, rfl, rv⟩ := one_of r
    rename_i z
    by_cases c : z.length ≤ 640
    · rw [if_pos c] at e
      cases q : PySem.intText? z with
      | none => rw [q] at e; cases e
      | some n =>
        rw [q] at e
        cases e; cases rv
        exact ⟨z, n, rfl, c, q, k _ H Grow.rfl (.int _)⟩
    · rw [if_neg c] at e; cases e
  · cases e
/-! ### a module's list of texts -/
/-- the name x is the module's list zs -/
def LstT (K : PySem.W.Frag) (mg : Str → Option Value) (x : Str) (zs : List Str) : Prop := ∃ a, mg x = some (.ref a) ∧ ∃ (its : Array Value) (n : Nat), K.lookup a = some { cls := .type "list", data := .seq its n } ∧ its.size ≤ sizeLine ∧ Vals (zs.map V.str) its.toList
theorem strsEq_ok : ∀ {us : List Value} {zs : List Str}, strsEq us zs = true → Vals (zs.map V.str) us
  | [], [], _ => .nil
  | .str y t :: us, z :: zs, h => by
    rw [strsEq, Bool.and_eq_true, decide_eq_true_eq] at h
    exact .cons ⟨t, by rw [h.1]⟩ (strsEq_ok h.2)
  | [], _ :: _, h => by simp [strsEq] at h
  | .str _ _ :: _, [], h => by simp [strsEq] at h
  | .none :: _, _, h => by simp [strsEq] at h
  | .ref _ :: _, _, h => by simp [strsEq] at h
theorem listB_ok {K : PySem.W.Frag} {h : Heap} {mg : Str → Option Value} {x : Str} {zs : List Str} (X : K.In h) (G : h.Ns mainGlobals mg) (e : listB K (x, zs) = true) (g : (He.Fa.glo x).ok K = true) : LstT K mg x zs := by
  have g1 := He.glo_ok X G g
  refine ⟨_, g1, ?_⟩
  unfold listB at e
  dsimp only at e
  split at e
  · rename_i c its n sl q
    simp only [Bool.and_eq_true, decide_eq_true_eq, beq_iff_eq] at e
    obtain ⟨rfl, e2, e3, e4⟩ := e
    have es : sl = #[] := Array.isEmpty_iff.mp e2
    subst es
    exact ⟨its, n, q, by rw [sizeLine_eq]; omega, strsEq_ok e4⟩
  · cases e
section
variable {X : Cx} {G : Gh} {W : WX} {pos : Pos}
theorem de_globL {x : Str} {zs : List Str} (hm0 : G.m = ⟨X.K, X.mg, X.w⟩) (hg : Gl X x) (hm : LstT X.K X.mg x zs) (hd : (x == ("__debug__" : Str)) = false := by decide) : DE X G W (.Name x pos) (pureM (.lst (zs.map D.str))) := by
  obtain ⟨a, h, its, n, h1, h2, h3⟩ := hm
  refine de_glob (v := .ref a) hg h rfl (fun H => ?_) hd
  refine .lst (.inr ⟨its, n, by rw [hm0]; exact h1, h2, h3⟩) ?_
  clear h1 h2 h3
  induction zs with
  | nil => exact .nil
  | cons z zs ih => exact .cons (.str z) ih
end
end DL
end
section
/-! sorted(a tuple) -/
namespace DL
open PySem PySem.Spec L2
open PyProof.Rows hiding St
section
variable {prog : Program} {w : World} {A : Around} {E : Value → Shared → Prop} {s : Shared}
end
section
variable {m : Md}
end
end DL
end
section
/-! dicts whose keys are nested: walked, measured, sorted, get, update -/
namespace DL
open PySem PySem.Spec L2 DLS
open PyProof.Rows hiding St
/-! ### walked -/
def itemsN : D → Option (List D)
  | .dic ks _ => if ks.all isNK = true then some ks else none
  | _ => none
def itemsX (d : D) : Option (List D) := (itemsG d).or (itemsN d)
def itemsXM (f : M D) : M (List D) := bindM f fun d => liftM (itemsX d)
section
variable {X : Cx} {G : Gh} {W : WX}
end
/-! ### len(d) -/
def lenN : List D → Option D
  | [.dic ks _] => if ks.all isNK = true then some (.int ks.length) else none
  | _ => none
def lenX (ds : List D) : Option D := (lenG ds).or (lenN ds)
/-! ### methods -/
section
variable {m : Md} {X : Cx}
theorem Nd.plain {pins : List (Addr × Obj)} {σ : L2.St} {H : Hp} {s : Shared} {a : Addr} {kvs : List NEnt} {ks : List D} (n : Nd m H a kvs ks) (I : L2.Inv X pins σ H s) (hm : m = ⟨X.K, X.mg, X.w⟩) : s.TypeIs (.ref a) "dict" ∧ ∀ b, Value.ref a = Value.ref b → ∃ ob, s.heap.get? b = some ob ∧ ob.dict = none := by
  obtain ⟨us, h1, h2, h3, h4⟩ := n.dict I (by rw [hm]) (by rw [hm])
  refine ⟨h4.typeIs, fun b e => ?_⟩
  cases e
  obtain ⟨o, es, ep, e1, e2, _⟩ := h4
  exact ⟨o, e1, e2.2.1⟩
/-! update -/
end
end DL
end
section
namespace DL
open PySem PySem.Spec L2 DLS
open PyProof.Rows hiding St
/-! ### d.get(k, x), d.update(e) -/
def isDicC : OC → Bool
  | .k ks _ => ks.all isNK
  | _ => false
def putAllN : List D → List D → List D → List D → List D × List D
  | ks, vs, l :: ls, w :: ws => putAllN (putN l w ks vs).1 (putN l w ks vs).2 ls ws
  | ks, vs, _, _ => (ks, vs)
def dicUpd (c : OC) (as : List D) : Option OC := match c, as with
  | .k ks vs, [.dic ls ws] => if (ks.all isNK && ls.all isNK) = true ∧ (ks ≠ [] ∨ ls = []) ∧ ks.length + ls.length ≤ sizeLine then some (.k (putAllN ks vs ls ws).1 (putAllN ks vs ls ws).2) else none
  | _, _ => none
def updM (i : Nat) (fa : M (List D)) : M D := bindM (getC i) fun c0 => if isDicC c0 = true then bindM fa fun ds => bindM (getC i) fun c => bindM (liftM (dicUpd c ds)) fun c' => bindM (putC i c') fun _ => pureM .non else stuckM
section
variable {m : Md} {X : Cx} {G : Gh} {W : WX} {e : Expr} {es : List Expr} {pos : PySem.Pos}
end
/-! ### sorted(d) -/
section
variable {prog : Program} {w : World} {A : Around} {E : Value → Shared → Prop} {s : Shared}
end
def sortM : List D → Option (List D)
  | [.dic ks _] => if (ks.all isNK && canSort ks) = true then some (srtD ks) else none
  | _ => none
end DL
end
section
namespace DL
open PySem PySem.Spec L2 DLS
open PyProof.Rows hiding St
/-! ### {k: v}, k nested -/
def dicCN (fs : List (M D × M D)) : M OC := bindM (pairsM fs) fun ps => match ps with
  | [(k, v)] => if isNK k = true then pureM (.k [k] [v]) else stuckM
  | _ => stuckM
section
variable {X : Cx} {G : Gh} {W : WX} {pos : PySem.Pos}
end
end DL
end
section
namespace DL
open PySem PySem.Spec L2
open PyProof.Rows hiding St
namespace Mi
def Yard_on_board : Fn := fnM false 2 (retM (andV (chainM leA ltA (pureM (.int 0)) (op2 ixX (getM 1) (pureM (.int 0))) (fldM "Yard" "height" (getM 0))) (chainM leA ltA (pureM (.int 0)) (op2 ixX (getM 1) (pureM (.int 1))) (fldM "Yard" "width" (getM 0)))))
def Yard_is_free : Fn := fnM false 2 (retM (andV (methD "Yard" "on_board" [false, false] Mi.Yard_on_board (getM 0) (consA (getM 1) (pureM []))) (op2 ninX (getM 1) (fldM "Yard" "holes" (getM 0)))))
def is_piece : Fn := fnM false 5 (seqM (asgM (getM 1) (tgU 3 (tgs1 (tgN 2) (tgs1 (tgN 3) (tgs1 (tgN 4) (tgs0)))))) (retM (andV (methD "Yard" "is_free" [false, false] Mi.Yard_is_free (getM 0) (consA (getM 2) (pureM []))) (andV (op2 inX (getM 3) (tupM (consM (pureM (.int 0)) (consM (pureM (.int 1)) (pureM []))))) (op2 inX (getM 4) (fldM "Yard" "kinds" (getM 0)))))))
def crowns : Fn := fnM false 6 (retM (lstM (compO (itemsGM (getM 1)) (tgU 3 (tgs1 (tgN 3) (tgs1 (tgN 4) (tgs1 (tgN 5) (tgs0))))) (andM (boolM (op2 eqD (getM 4) (getM 2))) (boolM (op2 eqD (op2 ixX (op2 ixX (fldM "Yard" "kinds" (getM 0)) (getM 5)) (pureM (.int 2))) (pureM (.int 1))))) (getM 3) [3, 4, 5])))
def is_position : Fn := fnM false 6 (seqM (asgM (getM 1) (tgU 2 (tgs1 (tgN 2) (tgs1 (tgN 3) (tgs0))))) (seqM (ifM (orM (boolM (op2 ninX (getM 2) (tupM (consM (pureM (.int 0)) (consM (pureM (.int 1)) (pureM [])))))) (notM (boolM (chainM leA leA (pureM (.int 1)) (callD lenG (consM (getM 3) (pureM []))) (pureM (.int 10)))))) (retM (pureM (.bl false))) (skipM)) (seqM (ifM (notM (boolM (callD allD (consM (lstM (compO (itemsGM (getM 3)) (tgN 4) (pureM true) (callM Mi.is_piece (mdM [false, false] (consA (getM 0) (consA (getM 4) (pureM []))))) [4])) (pureM []))))) (retM (pureM (.bl false))) (skipM)) (seqM (ifM (notM (boolM (callD allD (consM (lstM (compO (rg2M (consM (pureM (.int 1)) (consM (callD lenG (consM (getM 3) (pureM []))) (pureM [])))) (tgN 5) (pureM true) (op2 ltA (op2 ixX (op2 ixX (getM 3) (op2 subD (getM 5) (pureM (.int 1)))) (pureM (.int 0))) (op2 ixX (op2 ixX (getM 3) (getM 5)) (pureM (.int 0)))) [5])) (pureM []))))) (retM (pureM (.bl false))) (skipM)) (retM (op2 gtA (callD lenG (consM (op2 addD (callM Mi.crowns (mdM [false, false, false] (consA (getM 0) (consA (getM 3) (consA (pureM (.int 0)) (pureM [])))))) (callM Mi.crowns (mdM [false, false, false] (consA (getM 0) (consA (getM 3) (consA (pureM (.int 1)) (pureM []))))))) (pureM []))) (pureM (.int 0))))))))
def check_position : Fn := fnM false 2 (ifM (notM (boolM (callM Mi.is_position (mdM [false, false] (consA (getM 0) (consA (getM 1) (pureM []))))))) (raiseM "BadPosition") (skipM))
def rising : Fn := fnM false 2 (retM (callD allD (consM (lstM (compO (rg2M (consM (pureM (.int 1)) (consM (callD lenG (consM (getM 0) (pureM []))) (pureM [])))) (tgN 1) (pureM true) (op2 ltA (op2 ixX (getM 0) (op2 subD (getM 1) (pureM (.int 1)))) (op2 ixX (getM 0) (getM 1))) [1])) (pureM []))))
def is_step : Fn := fnM false 1 (retM (andV (op2 neD (getM 0) (tupM (consM (pureM (.int 0)) (consM (pureM (.int 0)) (pureM []))))) (andV (op2 leA (callD absD (consM (op2 ixX (getM 0) (pureM (.int 0))) (pureM []))) (pureM (.int 4))) (op2 leA (callD absD (consM (op2 ixX (getM 0) (pureM (.int 1))) (pureM []))) (pureM (.int 4))))))
def is_kind : Fn := fnM false 6 (seqM (asgM (getM 1) (tgU 3 (tgs1 (tgN 2) (tgs1 (tgN 3) (tgs1 (tgN 4) (tgs0)))))) (seqM (ifM (orM (boolM (op2 neD (callD lenG (consM (getM 0) (pureM []))) (pureM (.int 1)))) (orM (boolM (op2 ninX (getM 0) (pureM (.str "abcdefghijklmnopqrstuvwxyz")))) (boolM (op2 ninX (getM 4) (tupM (consM (pureM (.int 0)) (consM (pureM (.int 1)) (pureM [])))))))) (retM (pureM (.bl false))) (skipM)) (retM (andV (callM Mi.rising (mdM [false] (consA (getM 2) (pureM [])))) (andV (callM Mi.rising (mdM [false] (consA (getM 3) (pureM [])))) (callD allD (consM (lstM (compO (itemsGM (op2 addD (getM 2) (getM 3))) (tgN 5) (pureM true) (callM Mi.is_step (mdM [false] (consA (getM 5) (pureM [])))) [5])) (pureM []))))))))
def Yard_ini : MS := seqM (ifRaise (orM (notM (boolM (chainM leA leA (pureM (.int 1)) (getM 1) (pureM (.int 5))))) (orM (notM (boolM (chainM leA leA (pureM (.int 1)) (getM 2) (pureM (.int 5))))) (boolM (op2 ninX (getM 6) (tupM (consM (pureM (.str "lost")) (consM (pureM (.str "drawn")) (pureM [])))))))) "BadYard") (seqM (setFM "Yard" "height" (getM 1)) (seqM (setFM "Yard" "width" (getM 2)) (seqM (setFM "Yard" "holes" (lstM (callO listCD (consM (getM 3) (pureM []))))) (seqM (setFM "Yard" "stuck" (getM 6)) (seqM (ifRaise (orM (notM (boolM (callM Mi.rising (mdM [false] (consA (getM 3) (pureM [])))))) (notM (boolM (callD allD (consM (lstM (compO (itemsGM (getM 3)) (tgN 12) (pureM true) (methD "Yard" "on_board" [false, false] Mi.Yard_on_board (getM 0) (consA (getM 12) (pureM []))) [12])) (pureM [])))))) "BadYard") (seqM (ifRaise (orM (notM (boolM (chainM leA leA (pureM (.int 1)) (callD lenG (consM (getM 4) (pureM []))) (pureM (.int 6))))) (notM (boolM (callD allD (consM (lstM (compO (itemsGM (getM 4)) (tgN 8) (pureM true) (callM Mi.is_kind (mdM [false, false] (consA (getM 8) (consA (op2 ixX (getM 4) (getM 8)) (pureM []))))) [8])) (pureM [])))))) "BadYard") (seqM (forIfM 7 (itemsGM (getM 5)) (orM (notM (boolM (callM Mi.rising (mdM [false] (consA (getM 7) (pureM [])))))) (notM (boolM (callD allD (consM (lstM (compO (itemsGM (getM 7)) (tgN 12) (pureM true) (methD "Yard" "is_free" [false, false] Mi.Yard_is_free (getM 0) (consA (getM 12) (pureM []))) [12])) (pureM [])))))) "BadYard") (seqM (setFM "Yard" "goals" (tupM (consM (lstM (callO listCD (consM (op2 ixX (getM 5) (pureM (.int 0))) (pureM [])))) (consM (lstM (callO listCD (consM (op2 ixX (getM 5) (pureM (.int 1))) (pureM [])))) (pureM []))))) (kinM "Yard" "kinds" 8 (itemsGM (lstM (callO sortG (consM (getM 4) (pureM []))))) (tgU 3 (tgs1 (tgN 9) (tgs1 (tgN 10) (tgs1 (tgN 11) (tgs0))))) (op2 ixX (getM 4) (getM 8)) (getM 8) (tupM (consM (lstM (callO listCD (consM (getM 9) (pureM [])))) (consM (lstM (callO listCD (consM (getM 10) (pureM [])))) (consM (getM 11) (pureM []))))))))))))))
def piece_at : Fn := fnM false 5 (seqM (forD (itemsGM (getM 0)) (tgU 3 (tgs1 (tgN 2) (tgs1 (tgN 3) (tgs1 (tgN 4) (tgs0))))) (ifM (boolM (op2 eqD (getM 2) (getM 1))) (retM (tupM (consM (getM 3) (consM (getM 4) (pureM []))))) (skipM))) (retM (pureM .non)))
def turned_step : Fn := fnM false 2 (seqM (ifM (boolM (op2 eqD (getM 1) (pureM (.int 0)))) (retM (getM 0)) (skipM)) (retM (tupM (consM (op2 subD (pureM (.int 0)) (op2 ixX (getM 0) (pureM (.int 0)))) (consM (op2 subD (pureM (.int 0)) (op2 ixX (getM 0) (pureM (.int 1)))) (pureM []))))))
def gone : Fn := fnM false 3 (retM (tupM (consM (op2 addD (op2 ixX (getM 0) (pureM (.int 0))) (op2 mulD (getM 2) (op2 ixX (getM 1) (pureM (.int 0))))) (consM (op2 addD (op2 ixX (getM 0) (pureM (.int 1))) (op2 mulD (getM 2) (op2 ixX (getM 1) (pureM (.int 1))))) (pureM [])))))
def may_end : Fn := fnM false 5 (seqM (ifM (notM (boolM (methD "Yard" "is_free" [false, false] Mi.Yard_is_free (getM 0) (consA (getM 3) (pureM []))))) (retM (pureM (.bl false))) (skipM)) (seqM (setM 4 (callM Mi.piece_at (mdM [false, false] (consA (getM 1) (consA (getM 3) (pureM [])))))) (retM (orV (isN (getM 4)) (op2 neD (op2 ixX (getM 4) (pureM (.int 0))) (getM 2))))))
def ride : Fn := fnM false 7 (seqM (setOM 5 (sizeM (pureM []))) (seqM (setM 6 (pureM (.int 1))) (seqM (whileM (boolM (callM Mi.may_end (mdM [false, false, false, false] (consA (getM 0) (consA (getM 1) (consA (getM 2) (consA (callM Mi.gone (mdM [false, false, false] (consA (getM 3) (consA (getM 4) (consA (getM 6) (pureM [])))))) (pureM [])))))))) (seqM (dropM (mtO 5 appD (consM (getM 6) (pureM [])))) (seqM (ifM (boolM (notN (callM Mi.piece_at (mdM [false, false] (consA (getM 1) (consA (callM Mi.gone (mdM [false, false, false] (consA (getM 3) (consA (getM 4) (consA (getM 6) (pureM [])))))) (pureM []))))))) (retM (rdM 5)) (skipM)) (setM 6 (op2 addD (getM 6) (pureM (.int 1)))))) 100000) (retM (rdM 5)))))
def ways_of : Fn := fnM false 12 (seqM (asgM (getM 2) (tgU 3 (tgs1 (tgN 3) (tgs1 (tgN 4) (tgs1 (tgN 5) (tgs0)))))) (seqM (asgM (op2 ixX (fldM "Yard" "kinds" (getM 0)) (getM 5)) (tgU 3 (tgs1 (tgN 6) (tgs1 (tgN 7) (tgs1 (tgN 8) (tgs0)))))) (seqM (setOM 9 (sizeM (pureM []))) (seqM (forD (itemsGM (getM 6)) (tgN 10) (seqM (setM 10 (callM Mi.turned_step (mdM [false, false] (consA (getM 10) (consA (getM 4) (pureM [])))))) (ifM (boolM (callM Mi.may_end (mdM [false, false, false, false] (consA (getM 0) (consA (getM 1) (consA (getM 4) (consA (callM Mi.gone (mdM [false, false, false] (consA (getM 3) (consA (getM 10) (consA (pureM (.int 1)) (pureM [])))))) (pureM [])))))))) (dropM (mtO 9 appD (consM (tupM (consM (callM Mi.gone (mdM [false, false, false] (consA (getM 3) (consA (getM 10) (consA (pureM (.int 1)) (pureM [])))))) (consM (tupM (consM (pureM (.str "leap")) (consM (getM 10) (consM (pureM (.int 1)) (pureM []))))) (pureM [])))) (pureM [])))) (skipM)))) (seqM (forD (itemsGM (getM 7)) (tgN 10) (seqM (setM 10 (callM Mi.turned_step (mdM [false, false] (consA (getM 10) (consA (getM 4) (pureM [])))))) (forD (itemsGM (callM Mi.ride (mdM [false, false, false, false, false] (consA (getM 0) (consA (getM 1) (consA (getM 4) (consA (getM 3) (consA (getM 10) (pureM []))))))))) (tgN 11) (dropM (mtO 9 appD (consM (tupM (consM (callM Mi.gone (mdM [false, false, false] (consA (getM 3) (consA (getM 10) (consA (getM 11) (pureM [])))))) (consM (tupM (consM (pureM (.str "ride")) (consM (getM 10) (consM (getM 11) (pureM []))))) (pureM [])))) (pureM []))))))) (retM (rdM 9)))))))
def all_ways : Fn := fnM false 8 (seqM (asgM (getM 1) (tgU 2 (tgs1 (tgN 2) (tgs1 (tgN 3) (tgs0))))) (seqM (setOM 4 (sizeM (pureM []))) (seqM (forD (itemsGM (getM 3)) (tgN 5) (ifM (boolM (op2 eqD (op2 ixX (getM 5) (pureM (.int 1))) (getM 2))) (dropM (mtO 4 extD (consM (lstM (compO (itemsGM (callM Mi.ways_of (mdM [false, false, false] (consA (getM 0) (consA (getM 3) (consA (getM 5) (pureM []))))))) (tgU 2 (tgs1 (tgN 6) (tgs1 (tgN 7) (tgs0)))) (pureM true) (tupM (consM (tupM (consM (op2 ixX (getM 5) (pureM (.int 0))) (consM (getM 6) (pureM [])))) (consM (getM 7) (pureM [])))) [6, 7])) (pureM [])))) (skipM))) (retM (rdM 4)))))
def on_goal : Fn := fnM false 4 (retM (callD anyD (consM (lstM (compO (itemsGM (callM Mi.crowns (mdM [false, false, false] (consA (getM 0) (consA (getM 1) (consA (getM 2) (pureM []))))))) (tgN 3) (pureM true) (op2 inX (getM 3) (op2 ixX (fldM "Yard" "goals" (getM 0)) (getM 2))) [3])) (pureM []))))
def verdict_of : Fn := fnM false 5 (seqM (asgM (getM 1) (tgU 2 (tgs1 (tgN 2) (tgs1 (tgN 3) (tgs0))))) (seqM (forD (itemsGM (tupM (consM (pureM (.int 0)) (consM (pureM (.int 1)) (pureM []))))) (tgN 4) (ifM (boolM (op2 eqD (callD lenG (consM (callM Mi.crowns (mdM [false, false, false] (consA (getM 0) (consA (getM 3) (consA (getM 4) (pureM [])))))) (pureM []))) (pureM (.int 0)))) (retM (op2 subD (pureM (.int 1)) (getM 4))) (skipM))) (seqM (forD (itemsGM (tupM (consM (op2 subD (pureM (.int 1)) (getM 2)) (consM (getM 2) (pureM []))))) (tgN 4) (ifM (boolM (callM Mi.on_goal (mdM [false, false, false] (consA (getM 0) (consA (getM 3) (consA (getM 4) (pureM []))))))) (retM (getM 4)) (skipM))) (seqM (ifM (boolM (op2 eqD (callD lenG (consM (callM Mi.all_ways (mdM [false, false] (consA (getM 0) (consA (getM 1) (pureM []))))) (pureM []))) (pureM (.int 0)))) (retM (iteM (boolM (op2 eqD (fldM "Yard" "stuck" (getM 0)) (pureM (.str "lost")))) (op2 subD (pureM (.int 1)) (getM 2)) (pureM (.str "drawn")))) (skipM)) (retM (pureM .non))))))
def moves_of : Fn := fnM true 4 (seqM (ifM (boolM (notN (callM Mi.verdict_of (mdM [false, false] (consA (getM 0) (consA (getM 1) (pureM []))))))) (retM (lstM (sizeM (pureM [])))) (skipM)) (retM (lstM (callO sortS (consM (lstM (compO (itemsGM (callM Mi.all_ways (mdM [false, false] (consA (getM 0) (consA (getM 1) (pureM [])))))) (tgU 2 (tgs1 (tgN 2) (tgs1 (tgN 3) (tgs0)))) (pureM true) (getM 2) [2, 3])) (pureM []))))))
def moves : Fn := fnM true 2 (seqM (dropM (callM Mi.check_position (mdM [false, false] (consA (getM 0) (consA (getM 1) (pureM [])))))) (retM (callM Mi.moves_of (mdM [false, false] (consA (getM 0) (consA (getM 1) (pureM [])))))))
def check_move : Fn := fnM false 3 (seqM (dropM (callM Mi.check_position (mdM [false, false] (consA (getM 0) (consA (getM 1) (pureM [])))))) (seqM (ifM (boolM (notN (callM Mi.verdict_of (mdM [false, false] (consA (getM 0) (consA (getM 1) (pureM []))))))) (raiseM "Ended") (skipM)) (ifM (boolM (op2 ninX (getM 2) (callM Mi.moves_of (mdM [false, false] (consA (getM 0) (consA (getM 1) (pureM []))))))) (raiseM "NoMove") (skipM))))
def after_of : Fn := fnM false 8 (seqM (asgM (getM 0) (tgU 2 (tgs1 (tgN 2) (tgs1 (tgN 3) (tgs0))))) (seqM (setOM 4 (sizeM (pureM []))) (seqM (forD (itemsGM (getM 3)) (tgU 3 (tgs1 (tgN 5) (tgs1 (tgN 6) (tgs1 (tgN 7) (tgs0))))) (ifM (boolM (op2 eqD (getM 5) (op2 ixX (getM 1) (pureM (.int 0))))) (dropM (mtO 4 appD (consM (tupM (consM (op2 ixX (getM 1) (pureM (.int 1))) (consM (getM 6) (consM (getM 7) (pureM []))))) (pureM [])))) (ifM (boolM (op2 neD (getM 5) (op2 ixX (getM 1) (pureM (.int 1))))) (dropM (mtO 4 appD (consM (tupM (consM (getM 5) (consM (getM 6) (consM (getM 7) (pureM []))))) (pureM [])))) (skipM)))) (retM (tupM (consM (op2 subD (pureM (.int 1)) (getM 2)) (consM (callD tupC (consM (lstM (callO sortG (consM (rdM 4) (pureM [])))) (pureM []))) (pureM []))))))))
def after : Fn := fnM false 3 (seqM (dropM (callM Mi.check_move (mdM [false, false, false] (consA (getM 0) (consA (getM 1) (consA (getM 2) (pureM []))))))) (retM (callM Mi.after_of (mdM [false, false] (consA (getM 1) (consA (getM 2) (pureM [])))))))
def walked : Fn := fnM true 5 (seqM (dropM (callM Mi.check_position (mdM [false, false] (consA (getM 0) (consA (getM 1) (pureM [])))))) (seqM (setOM 3 (sizeM (consM (getM 1) (pureM [])))) (seqM (forD (itemsGM (getM 2)) (tgN 4) (dropM (mtO 3 appD (consM (callM Mi.after (mdM [false, false, false] (consA (getM 0) (consA (bindM (getO 3) fun _ => opO 3 ixO (negM (pureM (.int 1)))) (consA (getM 4) (pureM [])))))) (pureM []))))) (retM (giveX 3)))))
def is_exchanged : Fn := fnM false 1 (retM (op2 eqD (op2 ixX (getM 0) (pureM (.int 0))) (pureM (.str "x"))))
def quarters : Fn := fnM false 1 (retM (callD intTD (consM (op2 ixX (getM 0) (negM (pureM (.int 1)))) (pureM []))))
def cell_over : Fn := fnM false 7 (seqM (asgM (getM 2) (tgU 2 (tgs1 (tgN 3) (tgs1 (tgN 4) (tgs0))))) (seqM (ifM (boolM (op2 eqD (slM (getM 1) (partM (negM (pureM (.int 5)))) (partM (negM (pureM (.int 1))))) (pureM (.str "flip")))) (setM 4 (op2 subD (op2 subD (fldM "Yard" "width" (getM 0)) (pureM (.int 1))) (getM 4))) (skipM)) (seqM (setM 5 (tupM (consM (fldM "Yard" "height" (getM 0)) (consM (fldM "Yard" "width" (getM 0)) (pureM []))))) (seqM (forD (rg1M (consM (callM Mi.quarters (mdM [false] (consA (getM 1) (pureM [])))) (pureM []))) (tgN 6) (seqM (parM 3 4 (consM (getM 4) (consM (op2 subD (op2 subD (op2 ixX (getM 5) (pureM (.int 0))) (pureM (.int 1))) (getM 3)) (pureM [])))) (setM 5 (tupM (consM (op2 ixX (getM 5) (pureM (.int 1))) (consM (op2 ixX (getM 5) (pureM (.int 0))) (pureM []))))))) (retM (tupM (consM (getM 3) (consM (getM 4) (pureM [])))))))))
def step_over : Fn := fnM false 5 (seqM (asgM (getM 1) (tgU 2 (tgs1 (tgN 2) (tgs1 (tgN 3) (tgs0))))) (seqM (ifM (boolM (op2 eqD (slM (getM 0) (partM (negM (pureM (.int 5)))) (partM (negM (pureM (.int 1))))) (pureM (.str "flip")))) (setM 3 (op2 subD (pureM (.int 0)) (getM 3))) (skipM)) (seqM (forD (rg1M (consM (callM Mi.quarters (mdM [false] (consA (getM 0) (pureM [])))) (pureM []))) (tgN 4) (parM 2 3 (consM (getM 3) (consM (op2 subD (pureM (.int 0)) (getM 2)) (pureM []))))) (seqM (ifM (boolM (callM Mi.is_exchanged (mdM [false] (consA (getM 0) (pureM []))))) (retM (tupM (consM (op2 subD (pureM (.int 0)) (getM 2)) (consM (op2 subD (pureM (.int 0)) (getM 3)) (pureM []))))) (skipM)) (retM (tupM (consM (getM 2) (consM (getM 3) (pureM [])))))))))
def cells_over : Fn := fnM false 4 (retM (lstM (callO sortG (consM (lstM (compO (itemsGM (getM 2)) (tgN 3) (pureM true) (callM Mi.cell_over (mdM [false, false, false] (consA (getM 0) (consA (getM 1) (consA (getM 3) (pureM [])))))) [3])) (pureM [])))))
def steps_stay : Fn := fnM false 5 (seqM (forD (itemsGM (fldM "Yard" "kinds" (getM 0))) (tgN 2) (forD (itemsGM (slM (op2 ixX (fldM "Yard" "kinds" (getM 0)) (getM 2)) (pureM none) (partM (pureM (.int 2))))) (tgN 3) (ifM (boolM (op2 neD (lstM (callO sortG (consM (lstM (compO (itemsGM (getM 3)) (tgN 4) (pureM true) (callM Mi.step_over (mdM [false, false] (consA (getM 1) (consA (getM 4) (pureM []))))) [4])) (pureM [])))) (getM 3))) (retM (pureM (.bl false))) (skipM)))) (retM (pureM (.bl true))))
def goals_stay : Fn := fnM false 4 (seqM (forD (itemsGM (tupM (consM (pureM (.int 0)) (consM (pureM (.int 1)) (pureM []))))) (tgN 2) (seqM (setM 3 (iteM (boolM (callM Mi.is_exchanged (mdM [false] (consA (getM 1) (pureM []))))) (op2 subD (pureM (.int 1)) (getM 2)) (getM 2))) (ifM (boolM (op2 neD (callM Mi.cells_over (mdM [false, false, false] (consA (getM 0) (consA (getM 1) (consA (op2 ixX (fldM "Yard" "goals" (getM 0)) (getM 2)) (pureM [])))))) (op2 ixX (fldM "Yard" "goals" (getM 0)) (getM 3)))) (retM (pureM (.bl false))) (skipM)))) (retM (pureM (.bl true))))
def is_borne : Fn := fnM false 2 (seqM (ifM (andM (boolM (op2 eqD (op2 modD (callM Mi.quarters (mdM [false] (consA (getM 1) (pureM [])))) (pureM (.int 2))) (pureM (.int 1)))) (boolM (op2 neD (fldM "Yard" "height" (getM 0)) (fldM "Yard" "width" (getM 0))))) (retM (pureM (.bl false))) (skipM)) (seqM (ifM (boolM (op2 neD (callM Mi.cells_over (mdM [false, false, false] (consA (getM 0) (consA (getM 1) (consA (fldM "Yard" "holes" (getM 0)) (pureM [])))))) (fldM "Yard" "holes" (getM 0)))) (retM (pureM (.bl false))) (skipM)) (retM (andV (callM Mi.steps_stay (mdM [false, false] (consA (getM 0) (consA (getM 1) (pureM []))))) (callM Mi.goals_stay (mdM [false, false] (consA (getM 0) (consA (getM 1) (pureM [])))))))))
def bears : Fn := fnM true 2 (retM (lstM (compO (itemsGM (pureM (.lst ((["turn0", "turn1", "turn2", "turn3", "flip0", "flip1", "flip2", "flip3", "xturn0", "xturn1", "xturn2", "xturn3", "xflip0", "xflip1", "xflip2", "xflip3"] : List Str).map D.str)))) (tgN 1) (boolM (callM Mi.is_borne (mdM [false, false] (consA (getM 0) (consA (getM 1) (pureM [])))))) (getM 1) [1])))
def side_over : Fn := fnM false 2 (retM (iteM (boolM (callM Mi.is_exchanged (mdM [false] (consA (getM 0) (pureM []))))) (op2 subD (pureM (.int 1)) (getM 1)) (getM 1)))
def over_of : Fn := fnM false 9 (seqM (asgM (getM 2) (tgU 2 (tgs1 (tgN 3) (tgs1 (tgN 4) (tgs0))))) (seqM (setOM 5 (compO (itemsGM (getM 4)) (tgU 3 (tgs1 (tgN 6) (tgs1 (tgN 7) (tgs1 (tgN 8) (tgs0))))) (pureM true) (tupM (consM (callM Mi.cell_over (mdM [false, false, false] (consA (getM 0) (consA (getM 1) (consA (getM 6) (pureM [])))))) (consM (callM Mi.side_over (mdM [false, false] (consA (getM 1) (consA (getM 7) (pureM []))))) (consM (getM 8) (pureM []))))) [6, 7, 8])) (retM (tupM (consM (callM Mi.side_over (mdM [false, false] (consA (getM 1) (consA (getM 3) (pureM []))))) (consM (callD tupC (consM (lstM (callO sortG (consM (rdM 5) (pureM [])))) (pureM []))) (pureM [])))))))
def kin : Fn := fnM true 3 (seqM (dropM (callM Mi.check_position (mdM [false, false] (consA (getM 0) (consA (getM 1) (pureM [])))))) (retM (lstM (callO sortS (consM (lstM (compO (itemsGM (callM Mi.bears (mdM [false] (consA (getM 0) (pureM []))))) (tgN 2) (pureM true) (callM Mi.over_of (mdM [false, false, false] (consA (getM 0) (consA (getM 2) (consA (getM 1) (pureM [])))))) [2])) (pureM []))))))
def check_asked : Fn := fnM false 4 (seqM (dropM (callM Mi.check_position (mdM [false, false] (consA (getM 0) (consA (getM 1) (pureM [])))))) (seqM (ifM (boolM (op2 ninX (getM 2) (tupM (consM (pureM (.int 0)) (consM (pureM (.int 1)) (pureM [])))))) (raiseM "BadSide") (skipM)) (ifM (notM (boolM (chainM leA leA (pureM (.int 0)) (getM 3) (pureM (.int 8))))) (raiseM "TooMany") (skipM))))
def wins : Nat → Fn
  | 0 => fun _ => .stuck
  | n + 1 => fnM false 10 (seqM (setM 5 (callM Mi.verdict_of (mdM [false, false] (consA (getM 0) (consA (getM 1) (pureM [])))))) (seqM (ifM (orM (boolM (notN (getM 5))) (boolM (op2 eqD (getM 3) (pureM (.int 0))))) (retM (op2 eqD (getM 5) (getM 2))) (skipM)) (seqM (setM 6 (tupM (consM (getM 1) (consM (getM 3) (pureM []))))) (seqM (ifM (lendT (boolM (op2 ninX (getM 6) (getM 4)))) (seqM (setOM 7 (compO (itemsGM (callM Mi.moves_of (mdM [false, false] (consA (getM 0) (consA (getM 1) (pureM [])))))) (tgN 8) (pureM true) (callM Mi.after_of (mdM [false, false] (consA (getM 1) (consA (getM 8) (pureM []))))) [8])) (ifM (boolM (op2 eqD (op2 ixX (getM 1) (pureM (.int 0))) (getM 2))) (setGM setAD 4 (getM 6) (callD anyD (consM (lstM (compO (itemsGM (rdM 7)) (tgN 9) (pureM true) (callM (Mi.wins n) (mdM [false, false, false, false, true] (consA (getM 0) (consA (getM 9) (consA (getM 2) (consA (op2 subD (getM 3) (pureM (.int 1))) (bindM (haveS 4) fun _ => consS 4 (pureM [])))))))) [9])) (pureM [])))) (setGM setAD 4 (getM 6) (callD allD (consM (lstM (compO (itemsGM (rdM 7)) (tgN 9) (pureM true) (callM (Mi.wins n) (mdM [false, false, false, false, true] (consA (getM 0) (consA (getM 9) (consA (getM 2) (consA (op2 subD (getM 3) (pureM (.int 1))) (bindM (haveS 4) fun _ => consS 4 (pureM [])))))))) [9])) (pureM [])))))) (skipM)) (retM (bindM (getC 4) fun _ => opC 4 ixC (getM 6)))))))
def is_tree : Nat → Fn
  | 0 => fun _ => .stuck
  | n + 1 => fnM false 3 (seqM (ifM (boolM (op2 eqD (getM 0) (tupM (consM (getM 1) (pureM []))))) (retM (pureM (.bl true))) (skipM)) (seqM (ifM (andM (boolM (op2 eqD (callD lenG (consM (getM 0) (pureM []))) (pureM (.int 3)))) (boolM (op2 eqD (op2 ixX (getM 0) (pureM (.int 0))) (pureM (.str "move"))))) (retM (callM (Mi.is_tree n) (mdM [false, false] (consA (op2 ixX (getM 0) (pureM (.int 2))) (consA (getM 1) (pureM [])))))) (skipM)) (seqM (ifM (andM (boolM (op2 eqD (callD lenG (consM (getM 0) (pureM []))) (pureM (.int 2)))) (andM (boolM (op2 eqD (op2 ixX (getM 0) (pureM (.int 0))) (pureM (.str "all")))) (boolM (op2 gtA (callD lenG (consM (op2 ixX (getM 0) (pureM (.int 1))) (pureM []))) (pureM (.int 0)))))) (retM (callD allD (consM (lstM (compO (itemsGM (op2 ixX (getM 0) (pureM (.int 1)))) (tgN 2) (pureM true) (callM (Mi.is_tree n) (mdM [false, false] (consA (op2 ixX (getM 2) (pureM (.int 1))) (consA (getM 1) (pureM []))))) [2])) (pureM [])))) (skipM)) (retM (pureM (.bl false))))))
def least_by : Fn := fnM false 6 (seqM (forD (rg1M (consM (op2 addD (getM 3) (pureM (.int 1))) (pureM []))) (tgN 5) (ifM (boolM (callM (Mi.wins 16) (mdM [false, false, false, false, true] (consA (getM 0) (consA (getM 1) (consA (getM 2) (consA (getM 5) (bindM (haveS 4) fun _ => consS 4 (pureM []))))))))) (retM (getM 5)) (skipM))) (retM (pureM .non)))
def least_of : Fn := fnM false 4 (retM (callM Mi.least_by (mdM [false, false, false, false, true] (consA (getM 0) (consA (getM 1) (consA (getM 2) (consA (getM 3) (consC (pureM (.k [] [])) (pureM [])))))))))
def least : Fn := fnM false 4 (seqM (dropM (callM Mi.check_asked (mdM [false, false, false, false] (consA (getM 0) (consA (getM 1) (consA (getM 2) (consA (getM 3) (pureM [])))))))) (retM (callM Mi.least_of (mdM [false, false, false, false] (consA (getM 0) (consA (getM 1) (consA (getM 2) (consA (getM 3) (pureM [])))))))))
def depth_of : Nat → Fn
  | 0 => fun _ => .stuck
  | n + 1 => fnM false 2 (seqM (ifM (boolM (op2 eqD (op2 ixX (getM 0) (pureM (.int 0))) (pureM (.str "move")))) (retM (op2 addD (pureM (.int 1)) (callM (Mi.depth_of n) (mdM [false] (consA (op2 ixX (getM 0) (pureM (.int 2))) (pureM [])))))) (skipM)) (seqM (ifM (boolM (op2 eqD (op2 ixX (getM 0) (pureM (.int 0))) (pureM (.str "all")))) (retM (op2 addD (pureM (.int 1)) (callD maxLD (consM (lstM (compO (itemsGM (op2 ixX (getM 0) (pureM (.int 1)))) (tgN 1) (pureM true) (callM (Mi.depth_of n) (mdM [false] (consA (op2 ixX (getM 1) (pureM (.int 1))) (pureM [])))) [1])) (pureM []))))) (skipM)) (retM (pureM (.int 0)))))
def check_either : Fn := fnM false 1 (ifM (andM (notM (boolM (callM (Mi.is_tree 16) (mdM [false, false] (consA (getM 0) (consA (pureM (.str "won")) (pureM []))))))) (notM (boolM (callM (Mi.is_tree 16) (mdM [false, false] (consA (getM 0) (consA (pureM (.str "not")) (pureM [])))))))) (raiseM "BadPaper") (skipM))
def depth : Fn := fnM false 1 (seqM (dropM (callM Mi.check_either (mdM [false] (consA (getM 0) (pureM []))))) (retM (callM (Mi.depth_of 16) (mdM [false] (consA (getM 0) (pureM []))))))
def next_ones : Fn := fnM false 3 (retM (lstM (compO (itemsGM (callM Mi.moves_of (mdM [false, false] (consA (getM 0) (consA (getM 1) (pureM [])))))) (tgN 2) (pureM true) (callM Mi.after_of (mdM [false, false] (consA (getM 1) (consA (getM 2) (pureM []))))) [2])))
def reach_of : Fn := fnM false 6 (seqM (setCM 2 (dicCN [(getM 1, callM Mi.next_ones (mdM [false, false] (consA (getM 0) (consA (getM 1) (pureM [])))))])) (seqM (setOM 3 (sizeM (consM (getM 1) (pureM [])))) (seqM (whileM (lendT (boolM (op2 gtA (callD lenG (consM (getM 3) (pureM []))) (pureM (.int 0))))) (seqM (setM 4 (mtO 3 popD (pureM []))) (forD (itemsGM (bindM (getC 2) fun _ => opC 2 ixC (getM 4))) (tgN 5) (ifM (lendT (boolM (op2 ninX (getM 5) (getM 2)))) (seqM (ifM (lendT (boolM (op2 eqD (callD lenX (consM (getM 2) (pureM []))) (pureM (.int 150))))) (raiseM "TooMany") (skipM)) (seqM (setGM setAD 2 (getM 5) (callM Mi.next_ones (mdM [false, false] (consA (getM 0) (consA (getM 5) (pureM [])))))) (dropM (mtO 3 appD (consM (getM 5) (pureM [])))))) (skipM)))) 100000) (retM (rdM 2)))))
def reach : Fn := fnM true 2 (seqM (dropM (callM Mi.check_position (mdM [false, false] (consA (getM 0) (consA (getM 1) (pureM [])))))) (retM (lstM (callO sortM (consM (callM Mi.reach_of (mdM [false, false] (consA (getM 0) (consA (getM 1) (pureM []))))) (pureM []))))))
def rank_by : Fn := fnM false 5 (seqM (ifM (boolM (notN (getM 0))) (retM (iteM (boolM (op2 eqD (getM 0) (pureM (.str "drawn")))) (pureM .non) (tupM (consM (getM 0) (consM (pureM (.int 0)) (pureM [])))))) (skipM)) (seqM (setOM 3 (compO (itemsGM (getM 2)) (tgN 4) (andM (boolM (notN (getM 4))) (boolM (op2 eqD (op2 ixX (getM 4) (pureM (.int 0))) (getM 1)))) (op2 ixX (getM 4) (pureM (.int 1))) [4])) (seqM (ifM (lendT (boolM (op2 gtA (callD lenG (consM (getM 3) (pureM []))) (pureM (.int 0))))) (retM (tupM (consM (getM 1) (consM (op2 addD (pureM (.int 1)) (callD minAD (consM (rdM 3) (pureM [])))) (pureM []))))) (skipM)) (seqM (ifM (boolM (op2 inX (pureM .non) (getM 2))) (retM (pureM .non)) (skipM)) (retM (tupM (consM (op2 subD (pureM (.int 1)) (getM 1)) (consM (op2 addD (pureM (.int 1)) (callD maxLD (consM (lstM (compO (itemsGM (getM 2)) (tgN 4) (pureM true) (op2 ixX (getM 4) (pureM (.int 1))) [4])) (pureM [])))) (pureM [])))))))))
def ranks_of : Fn := fnM true 11 (seqM (setCM 2 (pureM (.k [] []))) (seqM (setCM 3 (pureM (.k [] []))) (seqM (forD (itemsXM (getM 1)) (tgN 4) (seqM (setGM setAD 3 (getM 4) (callM Mi.verdict_of (mdM [false, false] (consA (getM 0) (consA (getM 4) (pureM [])))))) (setGM setAD 2 (getM 4) (callM Mi.rank_by (mdM [false, false, false] (consA (bindM (getC 3) fun _ => opC 3 ixC (getM 4)) (consA (pureM (.int 0)) (consA (lstM (sizeM (consM (pureM .non) (pureM [])))) (pureM []))))))))) (seqM (setOM 5 (compO (itemsXM (getM 1)) (tgN 4) (lendT (boolM (isN (op2 ixX (getM 2) (getM 4))))) (getM 4) [4])) (seqM (setM 6 (pureM (.int 0))) (seqM (setM 7 (pureM (.bl true))) (seqM (whileM (boolM (getM 7)) (seqM (setM 6 (op2 addD (getM 6) (pureM (.int 1)))) (seqM (setCM 8 (pureM (.k [] []))) (seqM (forD (itemsXM (rdM 5)) (tgN 4) (seqM (setM 9 (callM Mi.rank_by (mdM [false, false, false] (consA (bindM (getC 3) fun _ => opC 3 ixC (getM 4)) (consA (op2 ixX (getM 4) (pureM (.int 0))) (consA (lstM (compO (itemsGM (op2 ixX (getM 1) (getM 4))) (tgN 10) (pureM true) (bindM (getC 2) fun _ => opC 2 ixC (getM 10)) [10])) (pureM []))))))) (ifM (andM (boolM (notN (getM 9))) (boolM (op2 eqD (op2 ixX (getM 9) (pureM (.int 1))) (getM 6)))) (setGM setAD 8 (getM 4) (getM 9)) (skipM)))) (seqM (dropM (updM 2 (consM (rdM 8) (pureM [])))) (seqM (setOM 5 (compO (itemsXM (rdM 5)) (tgN 4) (lendT (boolM (op2 ninX (getM 4) (getM 8)))) (getM 4) [4])) (setM 7 (lendM (op2 gtA (callD lenX (consM (getM 8) (pureM []))) (pureM (.int 0)))))))))) 100000) (retM (giveX 2)))))))))
def check_side : Fn := fnM false 1 (ifM (boolM (op2 ninX (getM 0) (tupM (consM (pureM (.int 0)) (consM (pureM (.int 1)) (pureM [])))))) (raiseM "BadSide") (skipM))
def stay : Fn := fnM true 6 (seqM (dropM (callM Mi.check_position (mdM [false, false] (consA (getM 0) (consA (getM 1) (pureM [])))))) (seqM (dropM (callM Mi.check_side (mdM [false] (consA (getM 2) (pureM []))))) (seqM (setM 3 (callM Mi.ranks_of (mdM [false, false] (consA (getM 0) (consA (callM Mi.reach_of (mdM [false, false] (consA (getM 0) (consA (getM 1) (pureM []))))) (pureM [])))))) (seqM (setOM 4 (compO (itemsXM (getM 3)) (tgN 5) (orM (boolM (isN (op2 ixX (getM 3) (getM 5)))) (boolM (op2 eqD (op2 ixX (op2 ixX (getM 3) (getM 5)) (pureM (.int 0))) (getM 2)))) (getM 5) [5])) (seqM (ifM (lendT (boolM (op2 ninX (getM 1) (getM 4)))) (retXM (pureM .non)) (skipM)) (retM (lstM (callO sortG (consM (rdM 4) (pureM []))))))))))
def check_problem : Fn := fnM false 3 (seqM (dropM (callM Mi.check_position (mdM [false, false] (consA (getM 0) (consA (getM 1) (pureM [])))))) (seqM (ifM (notM (boolM (chainM leA leA (pureM (.int 1)) (getM 2) (pureM (.int 7))))) (raiseM "TooMany") (skipM)) (ifM (boolM (notN (callM Mi.verdict_of (mdM [false, false] (consA (getM 0) (consA (getM 1) (pureM []))))))) (raiseM "Ended") (skipM))))
def keys_of : Fn := fnM true 7 (seqM (setCM 3 (pureM (.k [] []))) (seqM (setM 4 (op2 ixX (getM 1) (pureM (.int 0)))) (seqM (setM 5 (callM Mi.moves_of (mdM [false, false] (consA (getM 0) (consA (getM 1) (pureM [])))))) (retM (lstM (compO (itemsGM (getM 5)) (tgN 6) (boolM (callM (Mi.wins 16) (mdM [false, false, false, false, true] (consA (getM 0) (consA (callM Mi.after_of (mdM [false, false] (consA (getM 1) (consA (getM 6) (pureM []))))) (consA (getM 4) (consA (op2 subD (getM 2) (pureM (.int 1))) (bindM (haveS 3) fun _ => consS 3 (pureM []))))))))) (getM 6) [6]))))))
def keys : Fn := fnM true 3 (seqM (dropM (callM Mi.check_problem (mdM [false, false, false] (consA (getM 0) (consA (getM 1) (consA (getM 2) (pureM []))))))) (retM (callM Mi.keys_of (mdM [false, false, false] (consA (getM 0) (consA (getM 1) (consA (getM 2) (pureM []))))))))
def numbers : Fn := fnM false 7 (seqM (dropM (callM Mi.check_asked (mdM [false, false, false, false] (consA (getM 0) (consA (getM 1) (consA (getM 2) (consA (getM 3) (pureM [])))))))) (seqM (setCM 5 (pureM (.k [] []))) (retM (lstM (compO (itemsGM (callM Mi.walked (mdM [false, false, false] (consA (getM 0) (consA (getM 1) (consA (getM 4) (pureM []))))))) (tgN 6) (pureM true) (callM Mi.least_by (mdM [false, false, false, false, true] (consA (getM 0) (consA (getM 6) (consA (getM 2) (consA (getM 3) (bindM (haveS 5) fun _ => consS 5 (pureM [])))))))) [6])))))
end Mi
end DL
end
section
namespace DL
open PySem PySem.Spec L2
open PyProof.Rows hiding St
namespace Mi
end Mi
end DL
end
section
namespace DL
open PySem PySem.Spec L2
open PyProof.Rows hiding St
namespace Mi
def law_cell : Fn := fnM false 3 (seqM (ifM (boolM (op2 ltA (getM 1) (callD lenG (consM (getM 0) (pureM []))))) (retM (op2 ixX (getM 0) (getM 1))) (skipM)) (seqM (setM 2 (pureM (.int 0))) (seqM (ifM (boolM (op2 gtA (callD lenG (consM (getM 0) (pureM []))) (pureM (.int 0)))) (setM 2 (op2 ixX (getM 0) (pureM (.int 0)))) (skipM)) (retM (op2 modD (op2 addD (op2 mulD (op2 modD (getM 2) (pureM (.int 65521))) (pureM (.int 48271))) (op2 mulD (getM 1) (pureM (.int 30103)))) (pureM (.int 65521)))))))
def law_begin : Fn := fnM true 3 (seqM (setM 2 (callM Mi.law_cell (mdM [false, false] (consA (getM 0) (consA (getM 1) (pureM [])))))) (retM (lstM (sizeM (consM (callD max2D (consM (getM 2) (consM (op2 subD (pureM (.int 0)) (getM 2)) (pureM [])))) (consM (callD intCD (consM (op2 geA (getM 2) (op2 powD (pureM (.int 10)) (pureM (.int 18)))) (pureM []))) (consM (pureM (.int 0)) (pureM []))))))))
def law_take : Fn := fnM false 4 (seqM (ifM (andM (boolM (op2 eqD (bindM (getO 0) fun _ => opO 0 ixO (pureM (.int 1))) (pureM (.int 1)))) (boolM (op2 gtA (bindM (getO 0) fun _ => opO 0 ixO (pureM (.int 0))) (pureM (.int 0))))) (seqM (setM 2 (op2 modD (bindM (getO 0) fun _ => opO 0 ixO (pureM (.int 0))) (getM 1))) (seqM (setIM 0 (pureM (.int 0)) (op2 divD (bindM (getO 0) fun _ => opO 0 ixO (pureM (.int 0))) (getM 1))) (retM (getM 2)))) (skipM)) (seqM (setIM 0 (pureM (.int 2)) (op2 addD (bindM (getO 0) fun _ => opO 0 ixO (pureM (.int 2))) (pureM (.int 1)))) (seqM (setM 3 (op2 modD (op2 mulD (op2 addD (op2 addD (op2 modD (bindM (getO 0) fun _ => opO 0 ixO (pureM (.int 0))) (pureM (.int 2147483647))) (op2 mulD (pureM (.int 7919)) (bindM (getO 0) fun _ => opO 0 ixO (pureM (.int 2))))) (pureM (.int 17))) (pureM (.int 48271))) (pureM (.int 2147483647)))) (seqM (setM 3 (op2 modD (op2 mulD (getM 3) (getM 3)) (pureM (.int 2147483647)))) (seqM (setM 3 (op2 modD (op2 mulD (op2 addD (getM 3) (bindM (getO 0) fun _ => opO 0 ixO (pureM (.int 2)))) (pureM (.int 69621))) (pureM (.int 2147483629)))) (retM (op2 modD (op2 divD (op2 modD (op2 mulD (getM 3) (getM 3)) (pureM (.int 2147483629))) (pureM (.int 8))) (getM 1))))))))
def law_steps : Fn := fnM false 5 (seqM (setM 1 (lstM (sizeM (consM (tupM (consM (pureM (.int 0)) (consM (pureM (.int 1)) (pureM [])))) (consM (tupM (consM (pureM (.int 1)) (consM (pureM (.int 0)) (pureM [])))) (consM (tupM (consM (pureM (.int 0)) (consM (negM (pureM (.int 1))) (pureM [])))) (consM (tupM (consM (negM (pureM (.int 1))) (consM (pureM (.int 0)) (pureM [])))) (pureM [])))))))) (seqM (setM 2 (lstM (sizeM (consM (tupM (consM (pureM (.int 1)) (consM (pureM (.int 1)) (pureM [])))) (consM (tupM (consM (pureM (.int 1)) (consM (negM (pureM (.int 1))) (pureM [])))) (consM (tupM (consM (negM (pureM (.int 1))) (consM (pureM (.int 1)) (pureM [])))) (consM (tupM (consM (negM (pureM (.int 1))) (consM (negM (pureM (.int 1))) (pureM [])))) (pureM [])))))))) (seqM (setM 3 (lstM (sizeM (consM (tupM (consM (pureM (.int 1)) (consM (pureM (.int 2)) (pureM [])))) (consM (tupM (consM (pureM (.int 2)) (consM (pureM (.int 1)) (pureM [])))) (consM (tupM (consM (negM (pureM (.int 1))) (consM (pureM (.int 2)) (pureM [])))) (consM (tupM (consM (pureM (.int 2)) (consM (negM (pureM (.int 1))) (pureM [])))) (consM (tupM (consM (pureM (.int 1)) (consM (negM (pureM (.int 2))) (pureM [])))) (consM (tupM (consM (negM (pureM (.int 2))) (consM (pureM (.int 1)) (pureM [])))) (consM (tupM (consM (negM (pureM (.int 1))) (consM (negM (pureM (.int 2))) (pureM [])))) (consM (tupM (consM (negM (pureM (.int 2))) (consM (negM (pureM (.int 1))) (pureM [])))) (pureM [])))))))))))) (seqM (setM 4 (lstM (sizeM (consM (op2 addD (getM 1) (getM 2)) (consM (getM 1) (consM (getM 2) (consM (getM 3) (consM (lstM (sizeM (consM (tupM (consM (pureM (.int 0)) (consM (pureM (.int 1)) (pureM [])))) (consM (tupM (consM (pureM (.int 0)) (consM (negM (pureM (.int 1))) (pureM [])))) (pureM []))))) (consM (lstM (sizeM (consM (tupM (consM (pureM (.int 1)) (consM (pureM (.int 0)) (pureM [])))) (pureM [])))) (consM (lstM (sizeM (consM (tupM (consM (pureM (.int 1)) (consM (pureM (.int 0)) (pureM [])))) (consM (tupM (consM (pureM (.int 1)) (consM (pureM (.int 1)) (pureM [])))) (consM (tupM (consM (pureM (.int 1)) (consM (negM (pureM (.int 1))) (pureM [])))) (pureM [])))))) (consM (lstM (sizeM (pureM []))) (pureM [])))))))))))) (retM (lstM (callO sortG (consM (op2 ixX (getM 4) (getM 0)) (pureM [])))))))))
def law_kind : Fn := fnM false 5 (seqM (setM 2 (callM Mi.law_steps (mdM [false] (consA (callM Mi.law_take (mdM [true, false] (bindM (haveS 0) fun _ => consS 0 (consA (pureM (.int 8)) (pureM []))))) (pureM []))))) (seqM (setM 3 (callM Mi.law_steps (mdM [false] (consA (callM Mi.law_take (mdM [true, false] (bindM (haveS 0) fun _ => consS 0 (consA (pureM (.int 8)) (pureM []))))) (pureM []))))) (seqM (ifM (boolM (op2 gtA (callM Mi.law_take (mdM [true, false] (bindM (haveS 0) fun _ => consS 0 (consA (pureM (.int 3)) (pureM []))))) (pureM (.int 0)))) (setM 3 (lstM (sizeM (pureM [])))) (skipM)) (seqM (ifM (boolM (op2 eqD (callM Mi.law_take (mdM [true, false] (bindM (haveS 0) fun _ => consS 0 (consA (pureM (.int 4)) (pureM []))))) (pureM (.int 3)))) (setM 2 (lstM (callO sortS (consM (lstM (compO (rg1M (consM (pureM (.int 2)) (pureM []))) (tgN 4) (pureM true) (tupM (consM (op2 subD (callM Mi.law_take (mdM [true, false] (bindM (haveS 0) fun _ => consS 0 (consA (pureM (.int 9)) (pureM []))))) (pureM (.int 4))) (consM (op2 addD (pureM (.int 1)) (callM Mi.law_take (mdM [true, false] (bindM (haveS 0) fun _ => consS 0 (consA (pureM (.int 4)) (pureM [])))))) (pureM [])))) [4])) (pureM []))))) (skipM)) (retM (tupM (consM (getM 2) (consM (getM 3) (consM (getM 1) (pureM []))))))))))
def law_some_cells : Fn := fnM false 8 (seqM (setOM 5 (sizeM (pureM []))) (seqM (forD (rg1M (consM (getM 1) (pureM []))) (tgN 6) (forD (rg1M (consM (getM 2) (pureM []))) (tgN 7) (ifM (andM (boolM (op2 ninX (tupM (consM (getM 6) (consM (getM 7) (pureM [])))) (getM 3))) (boolM (op2 eqD (callM Mi.law_take (mdM [true, false] (bindM (haveS 0) fun _ => consS 0 (consA (getM 4) (pureM []))))) (pureM (.int 1))))) (dropM (mtO 5 appD (consM (tupM (consM (getM 6) (consM (getM 7) (pureM [])))) (pureM [])))) (skipM)))) (retM (rdM 5))))
def law_parts : Fn := fnM false 13 (seqM (setXM 3 (callM Mi.law_begin (mdM [false, false] (consA (getM 0) (consA (getM 1) (pureM [])))))) (seqM (asgM (op2 ixX (lstM (sizeM (consM (tupM (consM (pureM (.int 2)) (consM (pureM (.int 2)) (pureM [])))) (consM (tupM (consM (pureM (.int 2)) (consM (pureM (.int 3)) (pureM [])))) (consM (tupM (consM (pureM (.int 3)) (consM (pureM (.int 3)) (pureM [])))) (consM (tupM (consM (pureM (.int 3)) (consM (pureM (.int 2)) (pureM [])))) (consM (tupM (consM (pureM (.int 1)) (consM (pureM (.int 4)) (pureM [])))) (consM (tupM (consM (pureM (.int 3)) (consM (pureM (.int 4)) (pureM [])))) (consM (tupM (consM (pureM (.int 4)) (consM (pureM (.int 3)) (pureM [])))) (consM (tupM (consM (pureM (.int 3)) (consM (pureM (.int 3)) (pureM [])))) (pureM []))))))))))) (callM Mi.law_take (mdM [true, false] (bindM (haveS 3) fun _ => consS 3 (consA (getM 2) (pureM [])))))) (tgU 2 (tgs1 (tgN 4) (tgs1 (tgN 5) (tgs0))))) (seqM (setM 6 (lstM (sizeM (pureM [])))) (seqM (ifM (boolM (op2 eqD (callM Mi.law_take (mdM [true, false] (bindM (haveS 3) fun _ => consS 3 (consA (pureM (.int 3)) (pureM []))))) (pureM (.int 2)))) (setM 6 (slM (callM Mi.law_some_cells (mdM [true, false, false, false, false] (bindM (haveS 3) fun _ => consS 3 (consA (getM 4) (consA (getM 5) (consA (lstM (sizeM (pureM []))) (consA (pureM (.int 7)) (pureM [])))))))) (pureM none) (partM (pureM (.int 2))))) (skipM)) (seqM (setCM 7 (dicC [(pureM (.str "k"), callM Mi.law_kind (mdM [true, false] (bindM (haveS 3) fun _ => consS 3 (consA (pureM (.int 1)) (pureM [])))))])) (seqM (setGM setAD 7 (op2 ixX (pureM (.str "ab")) (callM Mi.law_take (mdM [true, false] (bindM (haveS 3) fun _ => consS 3 (consA (pureM (.int 2)) (pureM [])))))) (callM Mi.law_kind (mdM [true, false] (bindM (haveS 3) fun _ => consS 3 (consA (pureM (.int 0)) (pureM [])))))) (seqM (ifM (boolM (op2 eqD (callM Mi.law_take (mdM [true, false] (bindM (haveS 3) fun _ => consS 3 (consA (pureM (.int 3)) (pureM []))))) (pureM (.int 1)))) (setGM setAD 7 (pureM (.str "q")) (callM Mi.law_kind (mdM [true, false] (bindM (haveS 3) fun _ => consS 3 (consA (callM Mi.law_take (mdM [true, false] (bindM (haveS 3) fun _ => consS 3 (consA (pureM (.int 2)) (pureM []))))) (pureM [])))))) (skipM)) (seqM (ifM (boolM (op2 eqD (callM Mi.law_take (mdM [true, false] (bindM (haveS 3) fun _ => consS 3 (consA (pureM (.int 8)) (pureM []))))) (pureM (.int 1)))) (forD (itemsGM (pureM (.str "cde"))) (tgN 8) (setGM setAD 7 (getM 8) (callM Mi.law_kind (mdM [true, false] (bindM (haveS 3) fun _ => consS 3 (consA (callM Mi.law_take (mdM [true, false] (bindM (haveS 3) fun _ => consS 3 (consA (pureM (.int 2)) (pureM []))))) (pureM []))))))) (skipM)) (seqM (setM 9 (tupM (consM (lstM (sizeM (pureM []))) (consM (lstM (sizeM (pureM []))) (pureM []))))) (seqM (ifM (boolM (op2 eqD (callM Mi.law_take (mdM [true, false] (bindM (haveS 3) fun _ => consS 3 (consA (pureM (.int 3)) (pureM []))))) (pureM (.int 1)))) (setM 9 (tupM (consM (callM Mi.law_some_cells (mdM [true, false, false, false, false] (bindM (haveS 3) fun _ => consS 3 (consA (getM 4) (consA (getM 5) (consA (getM 6) (consA (pureM (.int 6)) (pureM [])))))))) (consM (callM Mi.law_some_cells (mdM [true, false, false, false, false] (bindM (haveS 3) fun _ => consS 3 (consA (getM 4) (consA (getM 5) (consA (getM 6) (consA (pureM (.int 6)) (pureM [])))))))) (pureM []))))) (ifM (boolM (op2 eqD (callM Mi.law_take (mdM [true, false] (bindM (haveS 3) fun _ => consS 3 (consA (pureM (.int 3)) (pureM []))))) (pureM (.int 1)))) (seqM (setM 9 (tupM (consM (lstM (compO (rg1M (consM (getM 5) (pureM []))) (tgN 10) (pureM true) (tupM (consM (pureM (.int 0)) (consM (getM 10) (pureM [])))) [10])) (consM (lstM (compO (rg1M (consM (getM 5) (pureM []))) (tgN 10) (pureM true) (tupM (consM (op2 subD (getM 4) (pureM (.int 1))) (consM (getM 10) (pureM [])))) [10])) (pureM []))))) (setM 9 (callD tupC (consM (lstM (compO (itemsGM (getM 9)) (tgN 11) (pureM true) (lstM (compO (itemsGM (getM 11)) (tgN 12) (boolM (op2 ninX (getM 12) (getM 6))) (getM 12) [12])) [11])) (pureM []))))) (skipM))) (retM (tupM (consM (getM 4) (consM (getM 5) (consM (getM 6) (consM (rdM 7) (consM (getM 9) (consM (op2 ixX (lstM (sizeM (consM (pureM (.str "lost")) (consM (pureM (.str "drawn")) (pureM []))))) (callM Mi.law_take (mdM [true, false] (bindM (haveS 3) fun _ => consS 3 (consA (pureM (.int 2)) (pureM [])))))) (pureM [])))))))))))))))))))
def law_yard2 : Fn := fnM false 3 (seqM (setCM 1 (pureM (.k [] []))) (seqM (forD (itemsGM (op2 ixX (getM 0) (pureM (.int 3)))) (tgN 2) (setGM setAD 1 (getM 2) (tupM (consM (lstM (callO listCD (consM (op2 ixX (op2 ixX (op2 ixX (getM 0) (pureM (.int 3))) (getM 2)) (pureM (.int 0))) (pureM [])))) (consM (lstM (callO listCD (consM (op2 ixX (op2 ixX (op2 ixX (getM 0) (pureM (.int 3))) (getM 2)) (pureM (.int 1))) (pureM [])))) (consM (op2 ixX (op2 ixX (op2 ixX (getM 0) (pureM (.int 3))) (getM 2)) (pureM (.int 2))) (pureM []))))))) (retM (makeM 6 (iniF 13 "Yard" Mi.Yard_ini) (consM (op2 ixX (getM 0) (pureM (.int 0))) (consM (op2 ixX (getM 0) (pureM (.int 1))) (consM (lstM (callO listCD (consM (op2 ixX (getM 0) (pureM (.int 2))) (pureM [])))) (consM (rdM 1) (consM (tupM (consM (lstM (callO listCD (consM (op2 ixX (op2 ixX (getM 0) (pureM (.int 4))) (pureM (.int 0))) (pureM [])))) (consM (lstM (callO listCD (consM (op2 ixX (op2 ixX (getM 0) (pureM (.int 4))) (pureM (.int 1))) (pureM [])))) (pureM [])))) (consM (op2 ixX (getM 0) (pureM (.int 5))) (pureM [])))))))))))
def law_even : Fn := fnM false 12 (seqM (setM 2 (callM Mi.law_parts (mdM [false, false, false] (consA (getM 0) (consA (getM 1) (consA (pureM (.int 8)) (pureM []))))))) (seqM (setXM 3 (callM Mi.law_begin (mdM [false, false] (consA (getM 0) (consA (op2 addD (getM 1) (pureM (.int 1))) (pureM [])))))) (seqM (ifM (boolM (op2 eqD (callM Mi.law_take (mdM [true, false] (bindM (haveS 3) fun _ => consS 3 (consA (pureM (.int 2)) (pureM []))))) (pureM (.int 0)))) (retM (getM 2)) (skipM)) (seqM (asgM (op2 ixX (lstM (sizeM (consM (tupM (consM (pureM (.int 2)) (consM (pureM (.int 2)) (pureM [])))) (consM (tupM (consM (pureM (.int 3)) (consM (pureM (.int 3)) (pureM [])))) (consM (tupM (consM (pureM (.int 2)) (consM (pureM (.int 3)) (pureM [])))) (consM (tupM (consM (pureM (.int 3)) (consM (pureM (.int 3)) (pureM [])))) (pureM []))))))) (callM Mi.law_take (mdM [true, false] (bindM (haveS 3) fun _ => consS 3 (consA (pureM (.int 4)) (pureM [])))))) (tgU 2 (tgs1 (tgN 4) (tgs1 (tgN 5) (tgs0))))) (seqM (ifM (boolM (op2 eqD (callM Mi.law_take (mdM [true, false] (bindM (haveS 3) fun _ => consS 3 (consA (pureM (.int 6)) (pureM []))))) (pureM (.int 1)))) (seqM (setM 4 (op2 addD (pureM (.int 4)) (callM Mi.law_take (mdM [true, false] (bindM (haveS 3) fun _ => consS 3 (consA (pureM (.int 2)) (pureM []))))))) (setM 5 (getM 4))) (skipM)) (seqM (setM 6 (tupM (consM (lstM (sizeM (pureM []))) (consM (lstM (sizeM (pureM []))) (pureM []))))) (seqM (setM 7 (callM Mi.law_take (mdM [true, false] (bindM (haveS 3) fun _ => consS 3 (consA (pureM (.int 4)) (pureM [])))))) (seqM (ifM (boolM (op2 eqD (getM 7) (pureM (.int 1)))) (setM 6 (tupM (consM (lstM (compO (rg1M (consM (getM 5) (pureM []))) (tgN 9) (pureM true) (tupM (consM (pureM (.int 0)) (consM (getM 9) (pureM [])))) [9])) (consM (lstM (compO (rg1M (consM (getM 5) (pureM []))) (tgN 9) (pureM true) (tupM (consM (op2 subD (getM 4) (pureM (.int 1))) (consM (getM 9) (pureM [])))) [9])) (pureM []))))) (skipM)) (seqM (ifM (boolM (op2 eqD (getM 7) (pureM (.int 2)))) (setM 6 (tupM (consM (lstM (sizeM (consM (tupM (consM (pureM (.int 0)) (consM (pureM (.int 0)) (pureM [])))) (pureM [])))) (consM (lstM (sizeM (consM (tupM (consM (op2 subD (getM 4) (pureM (.int 1))) (consM (op2 subD (getM 5) (pureM (.int 1))) (pureM [])))) (pureM [])))) (pureM []))))) (skipM)) (seqM (ifM (boolM (op2 eqD (getM 7) (pureM (.int 3)))) (setM 6 (tupM (consM (lstM (sizeM (consM (tupM (consM (op2 divD (getM 4) (pureM (.int 2))) (consM (op2 divD (getM 5) (pureM (.int 2))) (pureM [])))) (pureM [])))) (consM (lstM (sizeM (consM (tupM (consM (op2 divD (getM 4) (pureM (.int 2))) (consM (op2 divD (getM 5) (pureM (.int 2))) (pureM [])))) (pureM [])))) (pureM []))))) (skipM)) (seqM (setM 8 (lstM (sizeM (pureM [])))) (seqM (ifM (andM (boolM (op2 eqD (callM Mi.law_take (mdM [true, false] (bindM (haveS 3) fun _ => consS 3 (consA (pureM (.int 4)) (pureM []))))) (pureM (.int 1)))) (boolM (op2 neD (getM 7) (pureM (.int 3))))) (seqM (setM 8 (lstM (sizeM (consM (tupM (consM (pureM (.int 1)) (consM (pureM (.int 1)) (pureM [])))) (pureM []))))) (setM 6 (callD tupC (consM (lstM (compO (itemsGM (getM 6)) (tgN 10) (pureM true) (lstM (compO (itemsGM (getM 10)) (tgN 11) (boolM (op2 neD (getM 11) (tupM (consM (pureM (.int 1)) (consM (pureM (.int 1)) (pureM [])))))) (getM 11) [11])) [10])) (pureM []))))) (skipM)) (retM (tupM (consM (getM 4) (consM (getM 5) (consM (getM 8) (consM (op2 ixX (getM 2) (pureM (.int 3))) (consM (getM 6) (consM (op2 ixX (getM 2) (pureM (.int 5))) (pureM [])))))))))))))))))))))
def law_names : Fn := fnM false 2 (seqM (setM 0 (lstM (sizeM (consM (pureM (.str "turn0")) (consM (pureM (.str "turn1")) (consM (pureM (.str "turn2")) (consM (pureM (.str "turn3")) (consM (pureM (.str "flip0")) (consM (pureM (.str "flip1")) (consM (pureM (.str "flip2")) (consM (pureM (.str "flip3")) (pureM [])))))))))))) (retM (op2 addD (getM 0) (lstM (compO (itemsGM (getM 0)) (tgN 1) (pureM true) (op2 addD (pureM (.str "x")) (getM 1)) [1])))))
def law_over_cell : Fn := fnM false 7 (seqM (asgM (getM 2) (tgU 2 (tgs1 (tgN 3) (tgs1 (tgN 4) (tgs0))))) (seqM (parM 5 6 (consM (op2 ixX (getM 0) (pureM (.int 0))) (consM (op2 ixX (getM 0) (pureM (.int 1))) (pureM [])))) (seqM (ifM (boolM (op2 inW (pureM (.str "flip")) (getM 1))) (setM 4 (op2 subD (op2 subD (getM 6) (pureM (.int 1))) (getM 4))) (skipM)) (retM (op2 ixX (lstM (sizeM (consM (tupM (consM (getM 3) (consM (getM 4) (pureM [])))) (consM (tupM (consM (getM 4) (consM (op2 subD (op2 subD (getM 5) (pureM (.int 1))) (getM 3)) (pureM [])))) (consM (tupM (consM (op2 subD (op2 subD (getM 5) (pureM (.int 1))) (getM 3)) (consM (op2 subD (op2 subD (getM 6) (pureM (.int 1))) (getM 4)) (pureM [])))) (consM (tupM (consM (op2 subD (op2 subD (getM 6) (pureM (.int 1))) (getM 4)) (consM (getM 3) (pureM [])))) (pureM []))))))) (callD intTD (consM (op2 ixX (getM 1) (negM (pureM (.int 1)))) (pureM []))))))))
def law_over_step : Fn := fnM false 4 (seqM (asgM (getM 1) (tgU 2 (tgs1 (tgN 2) (tgs1 (tgN 3) (tgs0))))) (seqM (ifM (boolM (op2 inW (pureM (.str "flip")) (getM 0))) (setM 3 (op2 subD (pureM (.int 0)) (getM 3))) (skipM)) (seqM (asgM (op2 ixX (lstM (sizeM (consM (tupM (consM (getM 2) (consM (getM 3) (pureM [])))) (consM (tupM (consM (getM 3) (consM (op2 subD (pureM (.int 0)) (getM 2)) (pureM [])))) (consM (tupM (consM (op2 subD (pureM (.int 0)) (getM 2)) (consM (op2 subD (pureM (.int 0)) (getM 3)) (pureM [])))) (consM (tupM (consM (op2 subD (pureM (.int 0)) (getM 3)) (consM (getM 2) (pureM [])))) (pureM []))))))) (callD intTD (consM (op2 ixX (getM 0) (negM (pureM (.int 1)))) (pureM [])))) (tgU 2 (tgs1 (tgN 2) (tgs1 (tgN 3) (tgs0))))) (seqM (ifM (boolM (op2 eqD (op2 ixX (getM 0) (pureM (.int 0))) (pureM (.str "x")))) (retM (tupM (consM (op2 subD (pureM (.int 0)) (getM 2)) (consM (op2 subD (pureM (.int 0)) (getM 3)) (pureM []))))) (skipM)) (retM (tupM (consM (getM 2) (consM (getM 3) (pureM [])))))))))
def law_bears : Fn := fnM false 8 (seqM (ifM (andM (boolM (op2 inX (op2 ixX (getM 1) (negM (pureM (.int 1)))) (pureM (.str "13")))) (boolM (op2 neD (op2 ixX (getM 0) (pureM (.int 0))) (op2 ixX (getM 0) (pureM (.int 1)))))) (retM (pureM (.bl false))) (skipM)) (seqM (ifM (boolM (op2 neD (lstM (callO sortG (consM (lstM (compO (itemsGM (op2 ixX (getM 0) (pureM (.int 2)))) (tgN 6) (pureM true) (callM Mi.law_over_cell (mdM [false, false, false] (consA (getM 0) (consA (getM 1) (consA (getM 6) (pureM [])))))) [6])) (pureM [])))) (op2 ixX (getM 0) (pureM (.int 2))))) (retM (pureM (.bl false))) (skipM)) (seqM (forD (itemsGM (op2 ixX (getM 0) (pureM (.int 3)))) (tgN 2) (forD (itemsGM (slM (op2 ixX (op2 ixX (getM 0) (pureM (.int 3))) (getM 2)) (pureM none) (partM (pureM (.int 2))))) (tgN 3) (ifM (boolM (op2 neD (lstM (callO sortG (consM (lstM (compO (itemsGM (getM 3)) (tgN 7) (pureM true) (callM Mi.law_over_step (mdM [false, false] (consA (getM 1) (consA (getM 7) (pureM []))))) [7])) (pureM [])))) (getM 3))) (retM (pureM (.bl false))) (skipM)))) (seqM (forD (itemsGM (tupM (consM (pureM (.int 0)) (consM (pureM (.int 1)) (pureM []))))) (tgN 4) (seqM (setM 5 (op2 ixX (lstM (sizeM (consM (getM 4) (consM (op2 subD (pureM (.int 1)) (getM 4)) (pureM []))))) (callD intCD (consM (op2 eqD (op2 ixX (getM 1) (pureM (.int 0))) (pureM (.str "x"))) (pureM []))))) (ifM (boolM (op2 neD (lstM (callO sortG (consM (lstM (compO (itemsGM (op2 ixX (op2 ixX (getM 0) (pureM (.int 4))) (getM 4))) (tgN 6) (pureM true) (callM Mi.law_over_cell (mdM [false, false, false] (consA (getM 0) (consA (getM 1) (consA (getM 6) (pureM [])))))) [6])) (pureM [])))) (op2 ixX (op2 ixX (getM 0) (pureM (.int 4))) (getM 5)))) (retM (pureM (.bl false))) (skipM)))) (retM (pureM (.bl true)))))))
end Mi
end DL
end
section
namespace DL
open PySem PySem.Spec L2
open PyProof.Rows hiding St
/-! ### a list so many times over -/
end DL
end
section
namespace DL
open PySem PySem.Spec L2 DLS
open PyProof.Rows hiding St
/-! ### an own list compared with what a call tells: the list stays the def's own -/
section
variable {X : Cx} {G : Gh} {W : WX} {b : Expr} {pos : Pos}
end
end DL
end
section
/-! several except clauses, all with the same name -/
namespace DL
open PySem PySem.Spec L2
open PyProof.Rows hiding St
abbrev ClT := Value × (Addr → Value → Option Addr → TS)
inductive ClsA (X : Cx) (n : Str) : List ExceptHandler → List ClT → Prop
  | nil : ClsA X n [] []
  | cons {x : Str} {z : ClT} {b1 : Stmt} {su : List Stmt} {np p' : PySem.Pos} {hds : List ExceptHandler} {l : List ClT} : Names X x z.1 →
      (∀ (a : Addr) (oe : Obj) (cl : Value) (d : Option Addr) (pn : List (Addr × Obj)), Zc cl d oe → (∃ vs, oe.data = .fields vs) → PSs (X.suite a ((a, oe) :: pn)) (b1 :: su) (z.2 a cl d)) → ClsA X n hds l →
      ClsA X n (.ExceptHandler (some (.Name x np)) (some n) (b1 :: su) p' :: hds) (z :: l)
section
variable {X : Cx} {n : Str} {i : Nat} {body : List Stmt} {h1 : ExceptHandler} {hds : List ExceptHandler} {l : List ClT} {pos : PySem.Pos} {tb : WX → TS} {Wo : WX}
end
/-! ### over slots -/
section
variable {X : Cx} {G : Gh} {W : WX} {rm : RM} {tab : ExTab}
/-- a clause: its class, what its suite does -/
inductive ClsE (X : Cx) (G : Gh) (rm : RM) (tab : ExTab) (n : Str) : List ExceptHandler → List (Str × (Str → MS)) → Prop
  | nil : ClsE X G rm tab n [] []
  | cons {x : Str} {sm : Str → MS} {b1 : Stmt} {su : List Stmt} {np p' : PySem.Pos} {hds : List ExceptHandler} {l : List (Str × (Str → MS))} : (tab.lookup x).isSome = true → Gl X x → (x == ("__debug__" : Str)) = false →
      (∀ (a : Addr) (oe : Obj) (C : Addr) (c : Str) (pn : List (Addr × Obj)), HotB (X.suite a ((a, oe) :: pn)) a c C oe → DSs (X.suite a ((a, oe) :: pn)) ⟨G.m, G.H0, G.pr, some (a, c)⟩ W0 rm (b1 :: su) (sm c)) → ClsE X G rm tab n hds l →
      ClsE X G rm tab n (.ExceptHandler (some (.Name x np)) (some n) (b1 :: su) p' :: hds) ((x, sm) :: l)
end
end DL
end
section
/-! for x in xs, xs a list of the def's own that it changes afterwards -/
namespace DL
open PySem PySem.Spec L2
open PyProof.Rows hiding St
/-- slot i is guarded: it holds the list at a -/
def Gh.prot (G : Gh) (i : Nat) (a : Addr) : Gh := { G with pr := (i, a) :: G.pr }
section
variable {G : Gh} {σ : L2.St} {H : Hp} {ρ : DL.Env} {i : Nat} {a : Addr}
end
section
variable {X : Cx} {G : Gh} {W : WX} {rm : RM} {pos : PySem.Pos}
end
end DL
end
section
/-! slices as own lists; min with default; except without a name -/
namespace DL
open PySem PySem.Spec L2 PySem.SeqAt
open PyProof.Rows hiding St
/-! ### xs[a:b], a list of the def's own -/
section
variable {X : Cx} {G : Gh} {W : WX} {rm : RM} {e : Expr} {lo hi : Option Expr} {pos p2 : PySem.Pos}
/-! ### min(xs, default=d) -/
end
section
variable {prog : Program} {w : World} {A : Around} {E : Value → Shared → Prop} {s : Shared}
end
section
variable {X : Cx} {G : Gh} {W : WX} {rm : RM} {e : Expr} {es : List Expr} {ks : List Keyword} {p pos : PySem.Pos}
end
/-! ### except X, without a name -/
section
variable {X : Cx} {G : Gh} {W : WX} {rm : RM} {tab : ExTab}
end
end DL
end
section
/-! comprehensions over zip(xs, ys): each turn makes a new tuple -/
namespace DL
open PySem PySem.Spec L2
open PyProof.Rows hiding St
structure IterG (m : Md) (H : Hp) (J : It) (xs : List D) : Prop where
  stop : ∀ H', Stable H H' → J.stop xs.length H'
  go : ∀ i H', Stable H H' → i < xs.length → J.go i H'
  yld : ∀ i H1 v H2, Stable H H1 → i < xs.length → J.yld i H1 v H2 → Grow H1 H2 ∧ ∃ d, xs[i]? = some d ∧ Rep m H2 v d
section
variable {X : Cx} {G : Gh} {W : WX}
end
end DL
end
section
/-! a call without arguments -/
namespace DL
open PySem PySem.Spec L2
open PyProof.Rows hiding St
section
variable {X : Cx} {G : Gh} {W : WX} {pos p : Pos} {x : Str} {j k : Nat} {md : List Bool} {f : Fn}
theorem pe_callS0 {fA : Addr} {fd : FuncData} {ps : List Str} {sp : Sp} {kk : Nat} {E : L2.St → XK} (F : FnOk X.prog X.w X.K X.mg X.base (L2.CX X.prog X.w) kk fA fd ps sp) (hr : Room kk X.A) (hg : Gl X x) (hm : X.mg x = some (.ref fA)) (hk : PySem.W.keepIn X.K (.ref fA) = true) (hb : Binds X.K fd ps []) (hx : ∀ σ, PassesAt (L2.CX X.prog X.w) X σ (E σ))
    (hdb : (x == ("__debug__" : Str)) = false := by decide) : PE X (.Call (.Name x p) [] [] pos) (tCallS sp E tNil) :=
  ⟨fun pins s σ H Q I h => wpAny_Call_Name_kw (ld_glob I hg hm (PySem.W.callWith_K0 I.kIn hk (run_fnS (us := []) (vs := []) F hr hb (hx σ) I .nil h)) hdb)⟩
theorem de_calls0 (hex : G.ex = none) (hm0 : G.m = ⟨X.K, X.mg, X.w⟩) (tk : Takes X W) (C : DFn X.prog X.w X.K X.mg X.base x j md .f f) (hr : Room k X.A) (hk : j ≤ k) (hg : Gl X x) (hdb : (x == ("__debug__" : Str)) = false := by decide) :
    DE X G W (.Call (.Name x p) [] [] pos) (callM f (mdM md (pureM []))) := by
  obtain ⟨fA, fd, ps, h1, h2, h3, F⟩ := C.ex
  refine pe_imp (pe_callS0 F (hr.mono hk) hg h1 h2 h3 (fun σ => passAt tk σ) hdb) fun σ H Q ⟨ρ, k, q⟩ => ?_
  have z := (mdM_run q) H Stable.rfl k
  obtain ⟨e1, q2⟩ := z
  show spD _ _ _ _ _ [] _ _ _
  rw [← hm0]
  exact call_run hex k .nil .nil (fun ρ' e => by rw [e]; exact e1) q2 fun d ρ' v H' _ _ _ rf h => h v rf
end
end DL
end
section
namespace DL
open PySem PySem.Spec PySem.SeqAt
open PyProof.Rows hiding St
open AutoSeq1 (wpAny_loadPart')
open MeetsSeq MeetsSeq2 MeetsSeq3 SeqRoads2
theorem eqTupW {prog : Program} {w : World} {A : Around} {E : Value → Shared → Prop} {s : Shared} {l b : Addr} {items items2 : Array Value} {Q : Value → Shared → Prop} (hl : s.heap.IsTuple l items) (hb : s.heap.IsTuple b items2) (sz : items.size = items2.size)
    (he : ∀ j (h1 : j < items.size) (h2 : j < items2.size) (E : Value → Shared → Prop) (Q : Bool → Shared → Prop), Q true s → wpAny (model prog w) A.in1 (eqBool items[j] items2[j]) Q E s) (hu : A.units < cLine) (h : Q (.bool true) s) :
    wpAny (model prog w) A (compareOp .Eq (.ref l) (.ref b)) Q E s := by
  have tl : s.TypeIs (.ref l) "tuple" := by obtain ⟨o, h1, h2, _⟩ := hl; exact ⟨o, h1, h2⟩
  have tb : s.TypeIs (.ref b) "tuple" := by obtain ⟨o, h1, h2, _⟩ := hb; exact ⟨o, h1, h2⟩
  refine wpAny_richCompare_same_room (op := .Eq) tl tb PySem.F.slot_tuple_eq (wpAny_call_entry PySem.F.slot_tuple_eq tl PySem.F.entry_tuple_eq ?_ (PySem.F.args_tuple_eq_2 _ _)) hu
  obtain ⟨⟨cls, dd, data, sl⟩, ho, hc, n, hd⟩ := hl
  obtain ⟨⟨cls2, dd2, data2, sl2⟩, ho2, hc2, n2, hd2⟩ := hb
  simp only at hc hd hc2 hd2
  subst hc hd hc2 hd2
  have f2 := AutoSeq1.sub_tuple_tuple
  obtain ⟨hp, g, d, tk, os⟩ := s
  have hZ : (items.toList.zip items2.toList).length = items.size := by simp [sz]
  unfold Builtin.«tuple.__eq__»
  wp_walk using wpAny_loadPart' ho, wpAny_loadPart' ho2, wpAny_forIn_list _ (fun rest b s' => b.1 = none ∧ s' = ⟨hp, g, d, tk, os⟩ ∧ ∃ i, rest = (items.toList.zip items2.toList).drop i) _
  case turn =>
    rintro ⟨y, x⟩ rest b s' ⟨hb', rfl, i, hz⟩
    have hlt : i < (items.toList.zip items2.toList).length := by
      rcases Nat.lt_or_ge i (items.toList.zip items2.toList).length with h' | h'
      · exact h'
      · rw [List.drop_of_length_le h'] at hz; cases hz
    have h1 : i < items.size := hZ ▸ hlt
    have h2 : i < items2.size := sz ▸ h1
    rw [List.drop_eq_getElem_cons hlt] at hz
    injection hz with hyx hrest
    have hy : y = items[i] := by have := congrArg Prod.fst hyx; simpa using this
    have hx : x = items2[i] := by have := congrArg Prod.snd hyx; simpa using this
    subst hy hx
    refine wpAny_bind (he i h1 h2 _ _ ?_)
    wp_walk
    exact ⟨rfl, rfl, i + 1, hrest⟩
  case fin =>
    rintro ⟨b1, b2⟩ s' ⟨hb', rfl, i, hz⟩
    simp only at hb'
    subst hb'
    wp_walk
    exact ⟨_, rfl, by simpa [Builtin.Tuple.tupleCompareSizes, sz] using h⟩
  case h =>
    exact ⟨rfl, rfl, 0, rfl⟩
end DL
end
section
/-! == of tuples that hold dicts, whatever the order of their keys: where they are alike -/
namespace DL
open PySem PySem.Spec L2 DLS
open PyProof.Rows hiding St
/-- alike, as data -/
def LikeD (m : Md) (H : Hp) (v w : V) : Prop := ∃ d e, Dp m.K H v d ∧ Dp m.K H w e ∧ SeqAt.shaped d = true ∧ SeqAt.shaped e = true ∧ PyData.eqv d e = true
def LikeK (m : Md) (H : Hp) (v w : V) : Prop := ∃ a b oa ob ks ls, v = .ref a ∧ w = .ref b ∧ H a = some (.frz oa (.dK ks)) ∧ H b = some (.frz ob (.dK ls)) ∧ ks.length = ls.length ∧ ∀ p ∈ ks, ∃ y, valV ls p.1 = some y ∧ LikeD m H p.2 y
def rEqT (m : Md) : R2 := fun x y H Q => ∃ a b vs ws, x = .ref a ∧ y = .ref b ∧ SqT m.K H a vs ∧ SqT m.K H b ws ∧ vs.length = ws.length ∧ (∀ (i : Nat) v w, vs[i]? = some v → ws[i]? = some w → LikeD m H v w ∨ LikeK m H v w) ∧ Q (.bl true) H
section
variable {X : Cx} {pins : List (Addr × Obj)} {σ : L2.St} {H : Hp} {s : Shared} {m : Md}
theorem likeD_at (hm : m = ⟨X.K, X.mg, X.w⟩) (I : L2.Inv X pins σ H s) {A : Around} (hu : A.in1.units + 64 < cLine) {v w : V} {x y : Value} (h : LikeD m H v w) (rx : RelV v x) (ry : RelV w y) : SeqAt.EqAt A.in1 s x y true := by
  subst hm
  obtain ⟨d, e, h1, h2, h3, h4, h5⟩ := h
  obtain ⟨as, r1⟩ := Dp.reads I d v x h1 rx
  obtain ⟨bs, r2⟩ := Dp.reads I e w y h2 ry
  have := PySem.W.keq_at r1 r2 h3 h4 hu
  rw [h5] at this
  exact this
theorem hits_like (hm : m = ⟨X.K, X.mg, X.w⟩) (I : L2.Inv X pins σ H s) {A : Around} (hu : A.in1.units + 64 < cLine) {kvs : List (Key × V)} {vb : List (Key × Value)} (rb : KV kvs vb) {ks : List (Key × V)} {va : List (Key × Value)} (ra : KV ks va) :
    (∀ p ∈ ks, ∃ y, valV kvs p.1 = some y ∧ LikeD m H p.2 y) → PySem.W.KeqHits A.in1 s vb va true := by
  unfold KV at ra
  induction ra with
  | nil => intro _; exact .nil
  | @cons p q ps qs h t ih =>
    intro hp
    obtain ⟨h1, h2⟩ := h
    obtain ⟨y, e, f⟩ := hp p List.mem_cons_self
    have rr : RelO (some y) (valueAt vb p.1) := by rw [← e]; exact rb.val p.1
    obtain ⟨u, hy, ry⟩ := rr.some_of
    obtain ⟨k, v⟩ := q
    have h1' : p.1 = k := h1
    rw [h1'] at hy
    show PySem.W.KeqHits A.in1 s vb ((k, v) :: qs) (true && true)
    exact .hit hy (likeD_at hm I hu f h2 ry) (ih fun p' hm => hp p' (List.mem_cons_of_mem _ hm))
theorem likeK_at (hm : m = ⟨X.K, X.mg, X.w⟩) (I : L2.Inv X pins σ H s) {A : Around} (hu : A.units + 70 < cLine) {v w : V} {x y : Value} (h : LikeK m H v w) (rx : RelV v x) (ry : RelV w y) {E : Value → Shared → Prop} {Q : Bool → Shared → Prop} (hq : Q true s) : wpAny (model X.prog X.w) A (eqBool x y) Q E s := by
  obtain ⟨a, b, oa, ob, ks, ls, rfl, rfl, ea, eb, hlen, hp⟩ := h
  obtain rfl : x = Value.ref a := rx
  obtain rfl : y = Value.ref b := ry
  by_cases ne : a = b
  · subst ne; exact SeqAt.EqAt.same _ _ _ _ _ hq
  obtain ⟨_, _, ya, va, ra, da⟩ := (show ObjOk X.prog X.w H s.heap a (.frz oa (.dK ks)) from I.hok a _ ea)
  obtain ⟨_, _, yb, vb, rb, db⟩ := (show ObjOk X.prog X.w H s.heap b (.frz ob (.dK ls)) from I.hok b _ eb)
  have hl : va.length = vb.length := by rw [← ra.length, ← rb.length]; exact hlen
  have u1 : A.in1.units = A.units + 1 := rfl
  unfold eqBool
  refine wpAny_holding ?_
  refine wpAny_ite_split (fun hab => absurd (by have := eq_of_beq hab; injection this) ne) (fun _ => ?_)
  refine wpAny_bind ?_
  exact PySem.W.keq_eq (knd := mixKind X.prog X.w) (r := true) ya yb da db (by omega) (fun _ => hits_like hm I (by omega) rb ra hp) (by simp [hl]; exact wpAny_truthy_bool hq)
theorem op_eqT (hm : m = ⟨X.K, X.mg, X.w⟩) (hu : X.A.units + 130 < cLine) : OpR X (compareOp .Eq) (rEqT m) := by
  intro pins s σ H x y v u Q I rx ry h
  obtain ⟨a, b, vs, ws, rfl, rfl, ha, hb, hl, he, q⟩ := h
  obtain rfl : v = Value.ref a := rx
  obtain rfl : u = Value.ref b := ry
  have eK : m.K = X.K := by rw [hm]
  rw [eK] at ha hb
  obtain ⟨i1, r1, t1, _⟩ := I.tuple ha
  obtain ⟨i2, r2, t2, _⟩ := I.tuple hb
  have l1 := r1.length
  have l2 := r2.length
  have u1 : X.A.in1.units = X.A.units + 1 := rfl
  refine eqTupW t1 t2 (by simp; omega) (fun j h1 h2 E Q hq => ?_) (by omega) (fin_bl I q rfl)
  have g1 : i1[j]? = some i1[j] := List.getElem?_eq_getElem (by simpa using h1)
  have g2 : i2[j]? = some i2[j] := List.getElem?_eq_getElem (by simpa using h2)
  have j1 : j < vs.length := by have : j < i1.length := by simpa using h1
                                omega
  have j2 : j < ws.length := by omega
  have rr1 : RelV vs[j] i1[j] := by
    obtain ⟨z, z1, z2⟩ := r1.get (List.getElem?_eq_getElem j1)
    rw [g1] at z1; cases z1; exact z2
  have rr2 : RelV ws[j] i2[j] := by
    obtain ⟨z, z1, z2⟩ := r2.get (List.getElem?_eq_getElem j2)
    rw [g2] at z1; cases z1; exact z2
  rcases he j _ _ (List.getElem?_eq_getElem j1) (List.getElem?_eq_getElem j2) with h | h
  · exact likeD_at hm I (A := X.A) (by omega) h rr1 rr2 _ _ _ _ hq
  · exact likeK_at hm I (by omega) h rr1 rr2 hq
end
/-! ### of data -/
def likeB (x y : D) : Bool := okD x && okD y && eqvD x y
def likeKB : D → D → Bool
  | .dic ks vs, .dic ls ws => ks.all isK && ls.all isK && ks.length == vs.length && ks.length == ls.length && (ks.zip vs).all fun p => match dicGet p.1 ls ws with
    | some z => likeB p.2 z
    | none => false
  | _, _ => false
def eqT : D → D → Option D
  | .tup ds, .tup es => if (ds.length == es.length && (ds.zip es).all fun p => likeB p.1 p.2 || likeKB p.1 p.2) = true then some (.bl true) else none
  | _, _ => none
theorem like_rep {m : Md} {H : Hp} {v w : V} {x y : D} (rx : Rep m H v x) (ry : Rep m H w y) (h : likeB x y = true) : LikeD m H v w := by
  unfold likeB at h
  rw [Bool.and_eq_true, Bool.and_eq_true] at h
  exact ⟨toPy x, toPy y, rx.dp (SeqAt.canLay_of_shaped h.1.1), ry.dp (SeqAt.canLay_of_shaped h.1.2), h.1.1, h.1.2, h.2⟩
theorem likeK_rep {m : Md} {H : Hp} {v w : V} {x y : D} (rx : Rep m H v x) (ry : Rep m H w y) (h : likeKB x y = true) : LikeK m H v w := by
  unfold likeKB at h
  split at h
  · rename_i ks vs ls ws
    simp only [Bool.and_eq_true, beq_iff_eq] at h
    obtain ⟨⟨⟨⟨h1, h2⟩, h3⟩, h4⟩, h5⟩ := h
    cases rx with
    | dicN q n e r1 r2 => exact (notK r1 n h1).elim
    | @dicK a oa kvs _ qa ra =>
      cases ry with
      | dicN q n e r1 r2 => exact (notK r1 n h2).elim
      | @dicK b ob lvs _ qb rb =>
        refine ⟨a, b, oa, ob, kvs, lvs, rfl, rfl, qa, qb, by simpa using h4, fun p hp => ?_⟩
        obtain ⟨i, hi, e⟩ := List.getElem_of_mem hp
        have r0 := ra.len
        rw [List.length_map] at r0
        have e1 : (kvs.map (·.2))[i]? = some p.2 := by rw [List.getElem?_map, List.getElem?_eq_getElem hi, e]; rfl
        obtain ⟨d, e2, rd⟩ := ra.getV e1
        have e3 : (kvs.map fun p => keyD p.1)[i]? = some (keyD p.1) := by rw [List.getElem?_map, List.getElem?_eq_getElem hi, e]; rfl
        have := List.all_eq_true.mp h5 (keyD p.1, d) (List.mem_of_getElem? (List.getElem?_zip_eq_some.mpr ⟨e3, e2⟩))
        obtain ⟨g1, g2⟩ := dget_rep p.1 rb
        cases hg : dicGet (keyD p.1) (lvs.map fun p => keyD p.1) ws with
        | none => simp only [hg] at this; cases this
        | some z =>
          simp only [hg] at this
          obtain ⟨y, hy, ry⟩ := g1 z hg
          exact ⟨y, hy, like_rep rd ry this⟩
  · cases h
theorem opd_eqT {m : Md} : OpD m (rEqT m) eqT := fun x y dx dy d H Q rx ry e h => by
  unfold eqT at e
  split at e
  · split at e
    · rename_i ds es c
      cases e
      rw [Bool.and_eq_true, beq_iff_eq] at c
      cases rx with
      | @tup a vs _ qa ra =>
        cases ry with
        | @tup b ws _ qb rb =>
          have la := ra.len
          have lb := rb.len
          refine ⟨a, b, vs, ws, rfl, rfl, qa, qb, by omega, fun i v w hv hw => ?_, h _ H Grow.rfl (.bl true)⟩
          obtain ⟨d1, e1, r1⟩ := ra.getV hv
          obtain ⟨d2, e2, r2⟩ := rb.getV hw
          have := List.all_eq_true.mp c.2 (d1, d2) (List.mem_of_getElem? (List.getElem?_zip_eq_some.mpr ⟨e1, e2⟩))
          rw [Bool.or_eq_true] at this
          rcases this with t | t
          · exact .inl (like_rep r1 r2 t)
          · exact .inr (likeK_rep r1 r2 t)
    · cases e
  · cases e
def eqDT (a b : D) : Option D := (eqD a b).or (eqT a b)
theorem op_eqDT {X : Cx} {m : Md} (hm : m = ⟨X.K, X.mg, X.w⟩) (hu : X.A.units + 130 < cLine) : OpR X (compareOp .Eq) (fun x y H Q => rEqD X.K x y H Q ∨ rEqT m x y H Q) := (op_eqD (by omega)).or (op_eqT hm hu)
theorem opd_eqDT {m : Md} : OpD m (fun x y H Q => rEqD m.K x y H Q ∨ rEqT m x y H Q) eqDT := OpD.or opd_eq opd_eqT
end DL
end
namespace DL
open PySem PySem.Spec L2
open PyProof.Rows hiding St
structure Txt (K : PySem.W.Frag) (mg : Str → Option Value) : Prop where
  exs : Exs K mg tab
  n_abs : mg "abs" = none
  n_all : mg "all" = none
  n_int : mg "int" = none
  n_isinstance : mg "isinstance" = none
  n_len : mg "len" = none
  n_list : mg "list" = none
  n_max : mg "max" = none
  n_min : mg "min" = none
  n_range : mg "range" = none
  n_set : mg "set" = none
  n_sorted : mg "sorted" = none
  n_str : mg "str" = none
  n_tuple : mg "tuple" = none
  c_LETTERS : ∃ t, mg "LETTERS" = some (.str "abcdefghijklmnopqrstuvwxyz" t)
  c_MOST_KINDS : ∃ t, mg "MOST_KINDS" = some (.int 6 t)
  c_MOST_SIDE : ∃ t, mg "MOST_SIDE" = some (.int 5 t)
  c_MOST_STEP : ∃ t, mg "MOST_STEP" = some (.int 4 t)
  l_NAMES : LstT K mg "NAMES" ["turn0", "turn1", "turn2", "turn3", "flip0", "flip1", "flip2", "flip3", "xturn0", "xturn1", "xturn2", "xturn3", "xflip0", "xflip1", "xflip2", "xflip3"]
  k_Yard : ClsD K mg "Yard" ["goals", "height", "holes", "kinds", "stuck", "width"]
/-! ### the mirrors -/
namespace Mi
def law : Fn := fnM false 7 (seqM (setM 1 (callM Mi.law_even (mdM [false, false] (consA (getM 0) (consA (pureM (.int 0)) (pureM [])))))) (seqM (setM 2 (callM Mi.law_yard2 (mdM [false] (consA (getM 1) (pureM []))))) (seqM (setOM 3 (compO (itemsGM (callM Mi.law_names (mdM [] (pureM [])))) (tgN 6) (boolM (callM Mi.law_bears (mdM [false, false] (consA (getM 1) (consA (getM 6) (pureM [])))))) (getM 6) [6])) (seqM (forD (rg1M (consM (pureM (.int 2)) (pureM []))) (tgN 4) (seqM (setXM 5 (callM Mi.bears (mdM [false] (consA (getM 2) (pureM []))))) (seqM (ifM (orM (notM (lendT (boolM (isiM "list" (getM 5))))) (orM (lendT (boolM (op2 neD (getM 5) (getM 3)))) (boolM (op2 neD (bindM (getO 5) fun _ => opO 5 ixO (pureM (.int 0))) (pureM (.str "turn0")))))) (retM (pureM (.bl false))) (skipM)) (seqM (ifM (notM (lendT (boolM (callD allD (consM (lstM (compO (itemsGM (getM 5)) (tgN 6) (pureM true) (isiM "str" (getM 6)) [6])) (pureM [])))))) (retM (pureM (.bl false))) (skipM)) (dropM (mtO 5 appD (consM (pureM (.str "more")) (pureM [])))))))) (retM (op2 eqDT (tupM (consM (fldM "Yard" "height" (getM 2)) (consM (fldM "Yard" "width" (getM 2)) (consM (fldM "Yard" "holes" (getM 2)) (consM (fldM "Yard" "kinds" (getM 2)) (consM (fldM "Yard" "goals" (getM 2)) (consM (fldM "Yard" "stuck" (getM 2)) (pureM [])))))))) (getM 1)))))))
end Mi
section
variable {P : Program} {w : World} {K : PySem.W.Frag} {mg : Str → Option Value} {base : Heap}
theorem sc_is_exchanged : FnScope N_is_exchanged P_is_exchanged (defScope s_is_exchanged) := ⟨rfl, rfl, rfl, by decide +kernel, rfl, by decide +kernel, by decide +kernel⟩
theorem bi_is_exchanged : BindsF "is_exchanged" s_is_exchanged P_is_exchanged := fun _ _ _ _ _ _ us hl => match us, hl with | [_], _ => rfl
theorem ok_is_exchanged (T : Txt K mg) {fA : Addr} {fd : FuncData} (Dn : DefIn K mg "is_exchanged" s_is_exchanged fA fd) : DFn P w K mg base "is_exchanged" 1 [false] .f Mi.is_exchanged :=
  dfn_ok (k := 0) Dn sc_is_exchanged rfl bi_is_exchanged fun cdv A outer s H E H0 pr pf hr tk => by
    have sc := sc_is_exchanged; have hu := hr.units; have hv := room_hv hr
    exact (dss_one (ds_ret (de_cmp (op_eqD hu) opd_eq (de_ix (ix_X hv) opd_ixX (de_var 0 rfl (.inl rfl)) de_int) de_str (nomark _))))
theorem sc_quarters : FnScope N_quarters P_quarters (defScope s_quarters) := ⟨rfl, rfl, rfl, by decide +kernel, rfl, by decide +kernel, by decide +kernel⟩
theorem bi_quarters : BindsF "quarters" s_quarters P_quarters := fun _ _ _ _ _ _ us hl => match us, hl with | [_], _ => rfl
theorem ok_quarters (T : Txt K mg) {fA : Addr} {fd : FuncData} (Dn : DefIn K mg "quarters" s_quarters fA fd) : DFn P w K mg base "quarters" 1 [false] .f Mi.quarters :=
  dfn_ok (k := 0) Dn sc_quarters rfl bi_quarters fun cdv A outer s H E H0 pr pf hr tk => by
    have sc := sc_quarters; have hu := hr.units; have hv := room_hv hr
    exact (dss_one (ds_ret (de_callTy call_intT cd_intT rfl T.n_int (by decide +kernel) (da_cons (de_ix (ix_X hv) opd_ixX (de_var 0 rfl (.inl rfl)) (de_neg de_int)) da_nil))))
theorem sc_cell_over : FnScope N_cell_over P_cell_over (defScope s_cell_over) := ⟨rfl, rfl, rfl, by decide +kernel, rfl, by decide +kernel, by decide +kernel⟩
theorem bi_cell_over : BindsF "cell_over" s_cell_over P_cell_over := fun _ _ _ _ _ _ us hl => match us, hl with | [_, _, _], _ => rfl
theorem ok_cell_over (T : Txt K mg) {fA : Addr} {fd : FuncData} (Dn : DefIn K mg "cell_over" s_cell_over fA fd) (C_quarters : DFn P w K mg base "quarters" 1 [false] .f Mi.quarters) : DFn P w K mg base "cell_over" 2 [false, false, false] .f Mi.cell_over :=
  dfn_ok (k := 1) Dn sc_cell_over rfl bi_cell_over fun cdv A outer s H E H0 pr pf hr tk => by
    have sc := sc_cell_over; have hu := hr.units; have hv := room_hv hr
    exact (dss_cons (ds_asg (de_var 2 rfl (.inl rfl)) (dg_tup rfl rfl (dgs_cons (dg_name 3 (pf 3 rfl) sc.nd rfl (.inl rfl)) (dgs_cons (dg_name 4 (pf 4 rfl) sc.nd rfl (.inl rfl)) dgs_nil))))
      (dss_cons (ds_if (dt_cmp (op_eqD hu) opd_eq (de_slice rfl (de_var 1 rfl (.inl rfl)) (dp_some (de_neg de_int)) (dp_some (de_neg de_int))) de_str (nomark _)) (dss_one (ds_set 4 (pf 4 rfl) sc.nd rfl (.inl rfl) (de_op op_sub opd_sub (de_op op_sub opd_sub (de_fld rfl T.k_Yard (by decide) (de_var 0 rfl (.inl rfl))) de_int) (de_var 4 rfl (.inl rfl))))) dss_nil)
      (dss_cons (ds_set 5 (pf 5 rfl) sc.nd rfl (.inl rfl) (de_tup (da_cons (de_fld rfl T.k_Yard (by decide) (de_var 0 rfl (.inl rfl))) (da_cons (de_fld rfl T.k_Yard (by decide) (de_var 0 rfl (.inl rfl))) da_nil))))
      (dss_cons (ds_for (passes_of rfl) rfl (di_range1 rfl T.n_range (da_cons (de_calls rfl rfl tk C_quarters hr (by decide) rfl (dg_d (de_var 1 rfl (.inl rfl)) dg_nil)) da_nil)) (dg_name 6 (pf 6 rfl) sc.nd rfl (.inl rfl)) (dss_cons (ds_par 3 4 (pf 3 rfl) (pf 4 rfl) rfl sc.nd rfl rfl (by decide) rfl rfl (da_cons (de_var 4 rfl (.inl rfl)) (da_cons (de_op op_sub opd_sub (de_op op_sub opd_sub (de_ix (ix_X hv) opd_ixX (de_var 5 rfl (.inl rfl)) de_int) de_int) (de_var 3 rfl (.inl rfl))) da_nil)) rfl)
      (dss_one (ds_set 5 (pf 5 rfl) sc.nd rfl (.inl rfl) (de_tup (da_cons (de_ix (ix_X hv) opd_ixX (de_var 5 rfl (.inl rfl)) de_int) (da_cons (de_ix (ix_X hv) opd_ixX (de_var 5 rfl (.inl rfl)) de_int) da_nil)))))))
      (dss_one (ds_ret (de_tup (da_cons (de_var 3 rfl (.inl rfl)) (da_cons (de_var 4 rfl (.inl rfl)) da_nil)))))))))
theorem sc_step_over : FnScope N_step_over P_step_over (defScope s_step_over) := ⟨rfl, rfl, rfl, by decide +kernel, rfl, by decide +kernel, by decide +kernel⟩
theorem bi_step_over : BindsF "step_over" s_step_over P_step_over := fun _ _ _ _ _ _ us hl => match us, hl with | [_, _], _ => rfl
theorem ok_step_over (T : Txt K mg) {fA : Addr} {fd : FuncData} (Dn : DefIn K mg "step_over" s_step_over fA fd) (C_is_exchanged : DFn P w K mg base "is_exchanged" 1 [false] .f Mi.is_exchanged) (C_quarters : DFn P w K mg base "quarters" 1 [false] .f Mi.quarters) : DFn P w K mg base "step_over" 2 [false, false] .f Mi.step_over :=
  dfn_ok (k := 1) Dn sc_step_over rfl bi_step_over fun cdv A outer s H E H0 pr pf hr tk => by
    have sc := sc_step_over; have hu := hr.units; have hv := room_hv hr
    exact (dss_cons (ds_asg (de_var 1 rfl (.inl rfl)) (dg_tup rfl rfl (dgs_cons (dg_name 2 (pf 2 rfl) sc.nd rfl (.inl rfl)) (dgs_cons (dg_name 3 (pf 3 rfl) sc.nd rfl (.inl rfl)) dgs_nil))))
      (dss_cons (ds_if (dt_cmp (op_eqD hu) opd_eq (de_slice rfl (de_var 0 rfl (.inl rfl)) (dp_some (de_neg de_int)) (dp_some (de_neg de_int))) de_str (nomark _)) (dss_one (ds_set 3 (pf 3 rfl) sc.nd rfl (.inl rfl) (de_op op_sub opd_sub de_int (de_var 3 rfl (.inl rfl))))) dss_nil)
      (dss_cons (ds_for (passes_of rfl) rfl (di_range1 rfl T.n_range (da_cons (de_calls rfl rfl tk C_quarters hr (by decide) rfl (dg_d (de_var 0 rfl (.inl rfl)) dg_nil)) da_nil)) (dg_name 4 (pf 4 rfl) sc.nd rfl (.inl rfl)) (dss_one (ds_par 2 3 (pf 2 rfl) (pf 3 rfl) rfl sc.nd rfl rfl (by decide) rfl rfl (da_cons (de_var 3 rfl (.inl rfl)) (da_cons (de_op op_sub opd_sub de_int (de_var 2 rfl (.inl rfl))) da_nil)) rfl)))
      (dss_cons (ds_if (dt_val (de_calls rfl rfl tk C_is_exchanged hr (by decide) rfl (dg_d (de_var 0 rfl (.inl rfl)) dg_nil))) (dss_one (ds_ret (de_tup (da_cons (de_op op_sub opd_sub de_int (de_var 2 rfl (.inl rfl))) (da_cons (de_op op_sub opd_sub de_int (de_var 3 rfl (.inl rfl))) da_nil))))) dss_nil)
      (dss_one (ds_ret (de_tup (da_cons (de_var 2 rfl (.inl rfl)) (da_cons (de_var 3 rfl (.inl rfl)) da_nil)))))))))
theorem sc_cells_over : FnScope N_cells_over P_cells_over (defScope s_cells_over) := ⟨rfl, rfl, rfl, by decide +kernel, rfl, by decide +kernel, by decide +kernel⟩
theorem bi_cells_over : BindsF "cells_over" s_cells_over P_cells_over := fun _ _ _ _ _ _ us hl => match us, hl with | [_, _, _], _ => rfl
theorem ok_cells_over (T : Txt K mg) {fA : Addr} {fd : FuncData} (Dn : DefIn K mg "cells_over" s_cells_over fA fd) (C_cell_over : DFn P w K mg base "cell_over" 2 [false, false, false] .f Mi.cell_over) : DFn P w K mg base "cells_over" 3 [false, false, false] .f Mi.cells_over :=
  dfn_ok (k := 2) Dn sc_cells_over rfl bi_cells_over fun cdv A outer s H E H0 pr pf hr tk => by
    have sc := sc_cells_over; have hu := hr.units; have hv := room_hv hr
    exact (dss_one (ds_ret (de_fz (do_callB (X := _) (callR_or (cr_sortD rfl hv) (call_sortedD rfl)) (co_sortL.or co_sortK) (by exact rfl) T.n_sorted (by decide +kernel) (da_cons (de_fz (do_lc rfl sc.nd (di_gen rfl (de_var 2 rfl (.inl rfl))) (blkOk_by (N := N_cells_over) (sc := defScope s_cells_over) (own := [("cell", 3)]) (by decide +kernel)) rfl rfl (fun _ _ _ _ _ _ => (dg_name 3 (pf 3 rfl) sc.nd rfl (.inl rfl))) (fun _ _ _ _ _ _ => dts_nil) (fun _ _ _ _ _ _ => (de_calls rfl rfl takes0 C_cell_over hr (by decide) rfl (dg_d (de_var 0 rfl (.inr (.inl rfl))) (dg_d (de_var 1 rfl (.inr (.inl rfl))) (dg_d (de_var 3 rfl (.inl rfl)) dg_nil))))))) da_nil)))))
theorem sc_steps_stay : FnScope N_steps_stay P_steps_stay (defScope s_steps_stay) := ⟨rfl, rfl, rfl, by decide +kernel, rfl, by decide +kernel, by decide +kernel⟩
theorem bi_steps_stay : BindsF "steps_stay" s_steps_stay P_steps_stay := fun _ _ _ _ _ _ us hl => match us, hl with | [_, _], _ => rfl
theorem ok_steps_stay (T : Txt K mg) {fA : Addr} {fd : FuncData} (Dn : DefIn K mg "steps_stay" s_steps_stay fA fd) (C_step_over : DFn P w K mg base "step_over" 2 [false, false] .f Mi.step_over) : DFn P w K mg base "steps_stay" 3 [false, false] .f Mi.steps_stay :=
  dfn_ok (k := 2) Dn sc_steps_stay rfl bi_steps_stay fun cdv A outer s H E H0 pr pf hr tk => by
    have sc := sc_steps_stay; have hu := hr.units; have hv := room_hv hr
    exact (dss_cons (ds_for (passes_of rfl) rfl (di_gen rfl (de_fld rfl T.k_Yard (by decide) (de_var 0 rfl (.inl rfl)))) (dg_name 2 (pf 2 rfl) sc.nd rfl (.inl rfl)) (dss_one (ds_for (passes_of rfl) rfl (di_gen rfl (de_slice rfl (de_ix (ix_X hv) opd_ixX (de_fld rfl T.k_Yard (by decide) (de_var 0 rfl (.inl rfl))) (de_var 2 rfl (.inl rfl))) dp_none (dp_some de_int))) (dg_name 3 (pf 3 rfl) sc.nd rfl (.inl rfl)) (dss_one (ds_if (dt_cmp (op_neD hu) opd_ne (de_fz (do_callB (X := _) (callR_or (cr_sortD rfl hv) (call_sortedD rfl)) (co_sortL.or co_sortK) (by exact rfl) T.n_sorted (by decide +kernel) (da_cons (de_fz (do_lc rfl sc.nd (di_gen rfl (de_var 3 rfl (.inl rfl))) (blkOk_by (N := N_steps_stay) (sc := defScope s_steps_stay) (own := [("step", 4)]) (by decide +kernel)) rfl rfl (fun _ _ _ _ _ _ => (dg_name 4 (pf 4 rfl) sc.nd rfl (.inl rfl))) (fun _ _ _ _ _ _ => dts_nil) (fun _ _ _ _ _ _ => (de_calls rfl rfl takes0 C_step_over hr (by decide) rfl (dg_d (de_var 1 rfl (.inr (.inl rfl))) (dg_d (de_var 4 rfl (.inl rfl)) dg_nil)))))) da_nil))) (de_var 3 rfl (.inl rfl)) (nomark _)) (dss_one (ds_ret de_bl)) dss_nil)))))
      (dss_one (ds_ret de_bl)))
theorem sc_goals_stay : FnScope N_goals_stay P_goals_stay (defScope s_goals_stay) := ⟨rfl, rfl, rfl, by decide +kernel, rfl, by decide +kernel, by decide +kernel⟩
theorem bi_goals_stay : BindsF "goals_stay" s_goals_stay P_goals_stay := fun _ _ _ _ _ _ us hl => match us, hl with | [_, _], _ => rfl
theorem ok_goals_stay (T : Txt K mg) {fA : Addr} {fd : FuncData} (Dn : DefIn K mg "goals_stay" s_goals_stay fA fd) (C_is_exchanged : DFn P w K mg base "is_exchanged" 1 [false] .f Mi.is_exchanged) (C_cells_over : DFn P w K mg base "cells_over" 3 [false, false, false] .f Mi.cells_over) : DFn P w K mg base "goals_stay" 4 [false, false] .f Mi.goals_stay :=
  dfn_ok (k := 3) Dn sc_goals_stay rfl bi_goals_stay fun cdv A outer s H E H0 pr pf hr tk => by
    have sc := sc_goals_stay; have hu := hr.units; have hv := room_hv hr
    exact (dss_cons (ds_for (passes_of rfl) rfl (di_gen rfl (de_tup (da_cons de_int (da_cons de_int da_nil)))) (dg_name 2 (pf 2 rfl) sc.nd rfl (.inl rfl)) (dss_cons (ds_set 3 (pf 3 rfl) sc.nd rfl (.inl rfl) (de_if (dt_val (de_calls rfl rfl tk C_is_exchanged hr (by decide) rfl (dg_d (de_var 1 rfl (.inl rfl)) dg_nil))) (de_op op_sub opd_sub de_int (de_var 2 rfl (.inl rfl))) (de_var 2 rfl (.inl rfl))))
      (dss_one (ds_if (dt_cmp (op_neD hu) opd_ne (de_calls rfl rfl tk C_cells_over hr (by decide) rfl (dg_d (de_var 0 rfl (.inl rfl)) (dg_d (de_var 1 rfl (.inl rfl)) (dg_d (de_ix (ix_X hv) opd_ixX (de_fld rfl T.k_Yard (by decide) (de_var 0 rfl (.inl rfl))) (de_var 2 rfl (.inl rfl))) dg_nil)))) (de_ix (ix_X hv) opd_ixX (de_fld rfl T.k_Yard (by decide) (de_var 0 rfl (.inl rfl))) (de_var 3 rfl (.inl rfl))) (nomark _)) (dss_one (ds_ret de_bl)) dss_nil))))
      (dss_one (ds_ret de_bl)))
theorem sc_is_borne : FnScope N_is_borne P_is_borne (defScope s_is_borne) := ⟨rfl, rfl, rfl, by decide +kernel, rfl, by decide +kernel, by decide +kernel⟩
theorem bi_is_borne : BindsF "is_borne" s_is_borne P_is_borne := fun _ _ _ _ _ _ us hl => match us, hl with | [_, _], _ => rfl
theorem ok_is_borne (T : Txt K mg) {fA : Addr} {fd : FuncData} (Dn : DefIn K mg "is_borne" s_is_borne fA fd) (C_quarters : DFn P w K mg base "quarters" 1 [false] .f Mi.quarters) (C_cells_over : DFn P w K mg base "cells_over" 3 [false, false, false] .f Mi.cells_over) (C_steps_stay : DFn P w K mg base "steps_stay" 3 [false, false] .f Mi.steps_stay) (C_goals_stay : DFn P w K mg base "goals_stay" 4 [false, false] .f Mi.goals_stay) : DFn P w K mg base "is_borne" 5 [false, false] .f Mi.is_borne :=
  dfn_ok (k := 4) Dn sc_is_borne rfl bi_is_borne fun cdv A outer s H E H0 pr pf hr tk => by
    have sc := sc_is_borne; have hu := hr.units; have hv := room_hv hr
    exact (dss_cons (ds_if (dt_w (dw_and (dt_cmp (op_eqD hu) opd_eq (de_op op_mod opd_mod (de_calls rfl rfl tk C_quarters hr (by decide) rfl (dg_d (de_var 1 rfl (.inl rfl)) dg_nil)) de_int) de_int (nomark _)) (dw_and1 (dt_cmp (op_neD hu) opd_ne (de_fld rfl T.k_Yard (by decide) (de_var 0 rfl (.inl rfl))) (de_fld rfl T.k_Yard (by decide) (de_var 0 rfl (.inl rfl))) (nomark _))))) (dss_one (ds_ret de_bl)) dss_nil)
      (dss_cons (ds_if (dt_cmp (op_neD hu) opd_ne (de_calls rfl rfl tk C_cells_over hr (by decide) rfl (dg_d (de_var 0 rfl (.inl rfl)) (dg_d (de_var 1 rfl (.inl rfl)) (dg_d (de_fld rfl T.k_Yard (by decide) (de_var 0 rfl (.inl rfl))) dg_nil)))) (de_fld rfl T.k_Yard (by decide) (de_var 0 rfl (.inl rfl))) (nomark _)) (dss_one (ds_ret de_bl)) dss_nil)
      (dss_one (ds_ret (de_and (de_calls rfl rfl tk C_steps_stay hr (by decide) rfl (dg_d (de_var 0 rfl (.inl rfl)) (dg_d (de_var 1 rfl (.inl rfl)) dg_nil))) (de_one (de_calls rfl rfl tk C_goals_stay hr (by decide) rfl (dg_d (de_var 0 rfl (.inl rfl)) (dg_d (de_var 1 rfl (.inl rfl)) dg_nil)))))))))
theorem sc_bears : FnScope N_bears P_bears (defScope s_bears) := ⟨rfl, rfl, rfl, by decide +kernel, rfl, by decide +kernel, by decide +kernel⟩
theorem bi_bears : BindsF "bears" s_bears P_bears := fun _ _ _ _ _ _ us hl => match us, hl with | [_], _ => rfl
theorem ok_bears (T : Txt K mg) {fA : Addr} {fd : FuncData} (Dn : DefIn K mg "bears" s_bears fA fd) (C_is_borne : DFn P w K mg base "is_borne" 5 [false, false] .f Mi.is_borne) : DFn P w K mg base "bears" 6 [false] .o Mi.bears :=
  dfn_ok (k := 5) Dn sc_bears rfl bi_bears fun cdv A outer s H E H0 pr pf hr tk => by
    have sc := sc_bears; have hu := hr.units; have hv := room_hv hr
    exact (dss_one (ds_retDX (dx_list (do_lc rfl sc.nd (by exact (di_gen rfl (de_globL rfl rfl T.l_NAMES))) (blkOk_by (N := N_bears) (sc := defScope s_bears) (own := [("name", 1)]) (by decide +kernel)) rfl rfl (fun _ _ _ _ _ _ => (dg_name 1 (pf 1 rfl) sc.nd rfl (.inl rfl))) (fun _ _ _ _ _ _ => (dts_one (dt_val (de_calls rfl rfl takes0 C_is_borne hr (by decide) rfl (dg_d (de_var 0 rfl (.inr (.inl rfl))) (dg_d (de_var 1 rfl (.inl rfl)) dg_nil)))))) (fun _ _ _ _ _ _ => (de_var 1 rfl (.inl rfl)))))))
theorem sc_rising : FnScope N_rising P_rising (defScope s_rising) := ⟨rfl, rfl, rfl, by decide +kernel, rfl, by decide +kernel, by decide +kernel⟩
theorem bi_rising : BindsF "rising" s_rising P_rising := fun _ _ _ _ _ _ us hl => match us, hl with | [_], _ => rfl
theorem ok_rising (T : Txt K mg) {fA : Addr} {fd : FuncData} (Dn : DefIn K mg "rising" s_rising fA fd) : DFn P w K mg base "rising" 1 [false] .f Mi.rising :=
  dfn_ok (k := 0) Dn sc_rising rfl bi_rising fun cdv A outer s H E H0 pr pf hr tk => by
    have sc := sc_rising; have hu := hr.units; have hv := room_hv hr
    exact (dss_one (ds_ret (de_callB (cr_all rfl) cd_all rfl T.n_all (by decide +kernel) (da_cons (de_fz (do_lc rfl sc.nd (by exact (di_range2 rfl T.n_range (da_cons de_int (da_cons (de_callB (callR_or call_len call_lenF) (cd_len.or cd_lenK) rfl T.n_len (by decide +kernel) (da_cons (de_var 0 rfl (.inr (.inl rfl))) da_nil)) da_nil)))) (blkOk_by (N := N_rising) (sc := defScope s_rising) (own := [("k", 1)]) (by decide +kernel)) rfl rfl (fun _ _ _ _ _ _ => (dg_name 1 (pf 1 rfl) sc.nd rfl (.inl rfl))) (fun _ _ _ _ _ _ => dts_nil) (fun _ _ _ _ _ _ => (de_cmp (op_ltA hv) opd_ltA (de_ix (ix_X hv) opd_ixX (de_var 0 rfl (.inr (.inl rfl))) (de_op op_sub opd_sub (de_var 1 rfl (.inl rfl)) de_int)) (de_ix (ix_X hv) opd_ixX (de_var 0 rfl (.inr (.inl rfl))) (de_var 1 rfl (.inl rfl))) (nomark _))))) da_nil))))
theorem sc_is_step : FnScope N_is_step P_is_step (defScope s_is_step) := ⟨rfl, rfl, rfl, by decide +kernel, rfl, by decide +kernel, by decide +kernel⟩
theorem bi_is_step : BindsF "is_step" s_is_step P_is_step := fun _ _ _ _ _ _ us hl => match us, hl with | [_], _ => rfl
theorem ok_is_step (T : Txt K mg) {fA : Addr} {fd : FuncData} (Dn : DefIn K mg "is_step" s_is_step fA fd) : DFn P w K mg base "is_step" 1 [false] .f Mi.is_step :=
  dfn_ok (k := 0) Dn sc_is_step rfl bi_is_step fun cdv A outer s H E H0 pr pf hr tk => by
    have sc := sc_is_step; have hu := hr.units; have hv := room_hv hr
    exact (dss_one (ds_ret (de_and (de_cmp (op_neD hu) opd_ne (de_var 0 rfl (.inl rfl)) (de_tup (da_cons de_int (da_cons de_int da_nil))) (nomark _)) (de_and (de_cmp (op_leA hv) opd_leA (de_callB call_abs cd_abs rfl T.n_abs (by decide +kernel) (da_cons (de_ix (ix_X hv) opd_ixX (de_var 0 rfl (.inl rfl)) de_int) da_nil)) (de_globI rfl T.c_MOST_STEP) (nomark _)) (de_one (de_cmp (op_leA hv) opd_leA (de_callB call_abs cd_abs rfl T.n_abs (by decide +kernel) (da_cons (de_ix (ix_X hv) opd_ixX (de_var 0 rfl (.inl rfl)) de_int) da_nil)) (de_globI rfl T.c_MOST_STEP) (nomark _)))))))
theorem sc_is_kind : FnScope N_is_kind P_is_kind (defScope s_is_kind) := ⟨rfl, rfl, rfl, by decide +kernel, rfl, by decide +kernel, by decide +kernel⟩
theorem bi_is_kind : BindsF "is_kind" s_is_kind P_is_kind := fun _ _ _ _ _ _ us hl => match us, hl with | [_, _], _ => rfl
theorem ok_is_kind (T : Txt K mg) {fA : Addr} {fd : FuncData} (Dn : DefIn K mg "is_kind" s_is_kind fA fd) (C_rising : DFn P w K mg base "rising" 1 [false] .f Mi.rising) (C_is_step : DFn P w K mg base "is_step" 1 [false] .f Mi.is_step) : DFn P w K mg base "is_kind" 2 [false, false] .f Mi.is_kind :=
  dfn_ok (k := 1) Dn sc_is_kind rfl bi_is_kind fun cdv A outer s H E H0 pr pf hr tk => by
    have sc := sc_is_kind; have hu := hr.units; have hv := room_hv hr
    exact (dss_cons (ds_asg (de_var 1 rfl (.inl rfl)) (dg_tup rfl rfl (dgs_cons (dg_name 2 (pf 2 rfl) sc.nd rfl (.inl rfl)) (dgs_cons (dg_name 3 (pf 3 rfl) sc.nd rfl (.inl rfl)) (dgs_cons (dg_name 4 (pf 4 rfl) sc.nd rfl (.inl rfl)) dgs_nil)))))
      (dss_cons (ds_if (dt_w (dw_or (dt_cmp (op_neD hu) opd_ne (de_callB (callR_or call_len call_lenF) (cd_len.or cd_lenK) rfl T.n_len (by decide +kernel) (da_cons (de_var 0 rfl (.inl rfl)) da_nil)) de_int (nomark _)) (dw_or (dt_cmp (op_ninX hv) opd_ninX (de_var 0 rfl (.inl rfl)) (de_globS rfl T.c_LETTERS) (by with_unfolding_all rfl)) (dw_or1 (dt_cmp (op_ninX hv) opd_ninX (de_var 4 rfl (.inl rfl)) (de_tup (da_cons de_int (da_cons de_int da_nil))) (by with_unfolding_all rfl)))))) (dss_one (ds_ret de_bl)) dss_nil)
      (dss_one (ds_ret (de_and (de_calls rfl rfl tk C_rising hr (by decide) rfl (dg_d (de_var 2 rfl (.inl rfl)) dg_nil)) (de_and (de_calls rfl rfl tk C_rising hr (by decide) rfl (dg_d (de_var 3 rfl (.inl rfl)) dg_nil)) (de_one (de_callB (cr_all rfl) cd_all rfl T.n_all (by decide +kernel) (da_cons (de_fz (do_lc rfl sc.nd (di_gen rfl (de_op op_addU opd_add (de_var 2 rfl (.inl rfl)) (de_var 3 rfl (.inl rfl)))) (blkOk_by (N := N_is_kind) (sc := defScope s_is_kind) (own := [("step", 5)]) (by decide +kernel)) rfl rfl (fun _ _ _ _ _ _ => (dg_name 5 (pf 5 rfl) sc.nd rfl (.inl rfl))) (fun _ _ _ _ _ _ => dts_nil) (fun _ _ _ _ _ _ => (de_calls rfl rfl takes0 C_is_step hr (by decide) rfl (dg_d (de_var 5 rfl (.inl rfl)) dg_nil))))) da_nil)))))))))
theorem sc_law_cell : FnScope N_law_cell P_law_cell (defScope s_law_cell) := ⟨rfl, rfl, rfl, by decide +kernel, rfl, by decide +kernel, by decide +kernel⟩
theorem bi_law_cell : BindsF "_law_cell" s_law_cell P_law_cell := fun _ _ _ _ _ _ us hl => match us, hl with | [_, _], _ => rfl
theorem ok_law_cell (T : Txt K mg) {fA : Addr} {fd : FuncData} (Dn : DefIn K mg "_law_cell" s_law_cell fA fd) : DFn P w K mg base "_law_cell" 1 [false, false] .f Mi.law_cell :=
  dfn_ok (k := 0) Dn sc_law_cell rfl bi_law_cell fun cdv A outer s H E H0 pr pf hr tk => by
    have sc := sc_law_cell; have hu := hr.units; have hv := room_hv hr
    exact (dss_cons (ds_if (dt_cmp (op_ltA hv) opd_ltA (de_var 1 rfl (.inl rfl)) (de_callB (callR_or call_len call_lenF) (cd_len.or cd_lenK) rfl T.n_len (by decide +kernel) (da_cons (de_var 0 rfl (.inl rfl)) da_nil)) (nomark _)) (dss_one (ds_ret (de_ix (ix_X hv) opd_ixX (de_var 0 rfl (.inl rfl)) (de_var 1 rfl (.inl rfl))))) dss_nil)
      (dss_cons (ds_set 2 (pf 2 rfl) sc.nd rfl (.inl rfl) de_int)
      (dss_cons (ds_if (dt_cmp (op_gtA hv) opd_gtA (de_callB (callR_or call_len call_lenF) (cd_len.or cd_lenK) rfl T.n_len (by decide +kernel) (da_cons (de_var 0 rfl (.inl rfl)) da_nil)) de_int (nomark _)) (dss_one (ds_set 2 (pf 2 rfl) sc.nd rfl (.inl rfl) (de_ix (ix_X hv) opd_ixX (de_var 0 rfl (.inl rfl)) de_int))) dss_nil)
      (dss_one (ds_ret (de_op op_mod opd_mod (de_op op_addU opd_add (de_op op_mul opd_mul (de_op op_mod opd_mod (de_var 2 rfl (.inl rfl)) de_int) de_int) (de_op op_mul opd_mul (de_var 1 rfl (.inl rfl)) de_int)) de_int))))))
theorem sc_law_begin : FnScope N_law_begin P_law_begin (defScope s_law_begin) := ⟨rfl, rfl, rfl, by decide +kernel, rfl, by decide +kernel, by decide +kernel⟩
theorem bi_law_begin : BindsF "_law_begin" s_law_begin P_law_begin := fun _ _ _ _ _ _ us hl => match us, hl with | [_, _], _ => rfl
theorem ok_law_begin (T : Txt K mg) {fA : Addr} {fd : FuncData} (Dn : DefIn K mg "_law_begin" s_law_begin fA fd) (C_law_cell : DFn P w K mg base "_law_cell" 1 [false, false] .f Mi.law_cell) : DFn P w K mg base "_law_begin" 2 [false, false] .o Mi.law_begin :=
  dfn_ok (k := 1) Dn sc_law_begin rfl bi_law_begin fun cdv A outer s H E H0 pr pf hr tk => by
    have sc := sc_law_begin; have hu := hr.units; have hv := room_hv hr
    exact (dss_cons (ds_set 2 (pf 2 rfl) sc.nd rfl (.inl rfl) (de_calls rfl rfl tk C_law_cell hr (by decide) rfl (dg_d (de_var 0 rfl (.inl rfl)) (dg_d (de_var 1 rfl (.inl rfl)) dg_nil))))
      (dss_one (ds_retDX (dx_list (do_lst (da_cons (de_callB (call_max2 rfl) cd_max2 rfl T.n_max (by decide +kernel) (da_cons (de_var 2 rfl (.inl rfl)) (da_cons (de_op op_sub opd_sub de_int (de_var 2 rfl (.inl rfl))) da_nil))) (da_cons (de_callTy call_int1 cd_int rfl T.n_int (by decide +kernel) (da_cons (de_cmp (op_geA hv) opd_geA (de_var 2 rfl (.inl rfl)) (de_op op_pow opd_pow de_int de_int) (nomark _)) da_nil)) (da_cons de_int da_nil))))))))
theorem sc_law_take : FnScope N_law_take P_law_take (defScope s_law_take) := ⟨rfl, rfl, rfl, by decide +kernel, rfl, by decide +kernel, by decide +kernel⟩
theorem bi_law_take : BindsF "_law_take" s_law_take P_law_take := fun _ _ _ _ _ _ us hl => match us, hl with | [_, _], _ => rfl
theorem ok_law_take (T : Txt K mg) {fA : Addr} {fd : FuncData} (Dn : DefIn K mg "_law_take" s_law_take fA fd) : DFn P w K mg base "_law_take" 1 [true, false] .f Mi.law_take :=
  dfn_ok (k := 0) Dn sc_law_take rfl bi_law_take fun cdv A outer s H E H0 pr pf hr tk => by
    have sc := sc_law_take; have hu := hr.units; have hv := room_hv hr
    exact (dss_cons (ds_if (dt_w (dw_and (dt_cmp (op_eqD hu) opd_eq (de_ixO 0 ix_seq opo_ix de_int rfl (.inl rfl)) de_int (nomark _)) (dw_and1 (dt_cmp (op_gtA hv) opd_gtA (de_ixO 0 ix_seq opo_ix de_int rfl (.inl rfl)) de_int (nomark _))))) (dss_cons (ds_set 2 (pf 2 rfl) sc.nd rfl (.inl rfl) (de_op op_mod opd_mod (de_ixO 0 ix_seq opo_ix de_int rfl (.inl rfl)) (de_var 1 rfl (.inl rfl))))
      (dss_cons (ds_setI 0 (de_op op_fdiv opd_div (de_ixO 0 ix_seq opo_ix de_int rfl (.inl rfl)) (de_var 1 rfl (.inl rfl))) de_int rfl (.inl rfl))
      (dss_one (ds_ret (de_var 2 rfl (.inl rfl)))))) dss_nil)
      (dss_cons (ds_setI 0 (de_op op_addU opd_add (de_ixO 0 ix_seq opo_ix de_int rfl (.inl rfl)) de_int) de_int rfl (.inl rfl))
      (dss_cons (ds_set 3 (pf 3 rfl) sc.nd rfl (.inl rfl) (de_op op_mod opd_mod (de_op op_mul opd_mul (de_op op_addU opd_add (de_op op_addU opd_add (de_op op_mod opd_mod (de_ixO 0 ix_seq opo_ix de_int rfl (.inl rfl)) de_int) (de_op op_mul opd_mul de_int (de_ixO 0 ix_seq opo_ix de_int rfl (.inl rfl)))) de_int) de_int) de_int))
      (dss_cons (ds_set 3 (pf 3 rfl) sc.nd rfl (.inl rfl) (de_op op_mod opd_mod (de_op op_mul opd_mul (de_var 3 rfl (.inl rfl)) (de_var 3 rfl (.inl rfl))) de_int))
      (dss_cons (ds_set 3 (pf 3 rfl) sc.nd rfl (.inl rfl) (de_op op_mod opd_mod (de_op op_mul opd_mul (de_op op_addU opd_add (de_var 3 rfl (.inl rfl)) (de_ixO 0 ix_seq opo_ix de_int rfl (.inl rfl))) de_int) de_int))
      (dss_one (ds_ret (de_op op_mod opd_mod (de_op op_fdiv opd_div (de_op op_mod opd_mod (de_op op_mul opd_mul (de_var 3 rfl (.inl rfl)) (de_var 3 rfl (.inl rfl))) de_int) de_int) (de_var 1 rfl (.inl rfl))))))))))
theorem sc_law_steps : FnScope N_law_steps P_law_steps (defScope s_law_steps) := ⟨rfl, rfl, rfl, by decide +kernel, rfl, by decide +kernel, by decide +kernel⟩
theorem bi_law_steps : BindsF "_law_steps" s_law_steps P_law_steps := fun _ _ _ _ _ _ us hl => match us, hl with | [_], _ => rfl
theorem ok_law_steps (T : Txt K mg) {fA : Addr} {fd : FuncData} (Dn : DefIn K mg "_law_steps" s_law_steps fA fd) : DFn P w K mg base "_law_steps" 1 [false] .f Mi.law_steps :=
  dfn_ok (k := 0) Dn sc_law_steps rfl bi_law_steps fun cdv A outer s H E H0 pr pf hr tk => by
    have sc := sc_law_steps; have hu := hr.units; have hv := room_hv hr
    exact (dss_cons (ds_set 1 (pf 1 rfl) sc.nd rfl (.inl rfl) (de_fz (do_lst (da_cons (de_tup (da_cons de_int (da_cons de_int da_nil))) (da_cons (de_tup (da_cons de_int (da_cons de_int da_nil))) (da_cons (de_tup (da_cons de_int (da_cons (de_neg de_int) da_nil))) (da_cons (de_tup (da_cons (de_neg de_int) (da_cons de_int da_nil))) da_nil)))))))
      (dss_cons (ds_set 2 (pf 2 rfl) sc.nd rfl (.inl rfl) (de_fz (do_lst (da_cons (de_tup (da_cons de_int (da_cons de_int da_nil))) (da_cons (de_tup (da_cons de_int (da_cons (de_neg de_int) da_nil))) (da_cons (de_tup (da_cons (de_neg de_int) (da_cons de_int da_nil))) (da_cons (de_tup (da_cons (de_neg de_int) (da_cons (de_neg de_int) da_nil))) da_nil)))))))
      (dss_cons (ds_set 3 (pf 3 rfl) sc.nd rfl (.inl rfl) (de_fz (do_lst (da_cons (de_tup (da_cons de_int (da_cons de_int da_nil))) (da_cons (de_tup (da_cons de_int (da_cons de_int da_nil))) (da_cons (de_tup (da_cons (de_neg de_int) (da_cons de_int da_nil))) (da_cons (de_tup (da_cons de_int (da_cons (de_neg de_int) da_nil))) (da_cons (de_tup (da_cons de_int (da_cons (de_neg de_int) da_nil))) (da_cons (de_tup (da_cons (de_neg de_int) (da_cons de_int da_nil))) (da_cons (de_tup (da_cons (de_neg de_int) (da_cons (de_neg de_int) da_nil))) (da_cons (de_tup (da_cons (de_neg de_int) (da_cons (de_neg de_int) da_nil))) da_nil)))))))))))
      (dss_cons (ds_set 4 (pf 4 rfl) sc.nd rfl (.inl rfl) (de_fz (do_lst (da_cons (de_op op_addU opd_add (de_var 1 rfl (.inl rfl)) (de_var 2 rfl (.inl rfl))) (da_cons (de_var 1 rfl (.inl rfl)) (da_cons (de_var 2 rfl (.inl rfl)) (da_cons (de_var 3 rfl (.inl rfl)) (da_cons (de_fz (do_lst (da_cons (de_tup (da_cons de_int (da_cons de_int da_nil))) (da_cons (de_tup (da_cons de_int (da_cons (de_neg de_int) da_nil))) da_nil)))) (da_cons (de_fz (do_lst (da_cons (de_tup (da_cons de_int (da_cons de_int da_nil))) da_nil))) (da_cons (de_fz (do_lst (da_cons (de_tup (da_cons de_int (da_cons de_int da_nil))) (da_cons (de_tup (da_cons de_int (da_cons de_int da_nil))) (da_cons (de_tup (da_cons de_int (da_cons (de_neg de_int) da_nil))) da_nil))))) (da_cons (de_fz (do_lst da_nil)) da_nil)))))))))))
      (dss_one (ds_ret (de_fz (do_callB (X := _) (callR_or (cr_sortD rfl hv) (call_sortedD rfl)) (co_sortL.or co_sortK) (by exact rfl) T.n_sorted (by decide +kernel) (da_cons (de_ix (ix_X hv) opd_ixX (de_var 4 rfl (.inl rfl)) (de_var 0 rfl (.inl rfl))) da_nil)))))))))
theorem sc_law_kind : FnScope N_law_kind P_law_kind (defScope s_law_kind) := ⟨rfl, rfl, rfl, by decide +kernel, rfl, by decide +kernel, by decide +kernel⟩
theorem bi_law_kind : BindsF "_law_kind" s_law_kind P_law_kind := fun _ _ _ _ _ _ us hl => match us, hl with | [_, _], _ => rfl
theorem ok_law_kind (T : Txt K mg) {fA : Addr} {fd : FuncData} (Dn : DefIn K mg "_law_kind" s_law_kind fA fd) (C_law_take : DFn P w K mg base "_law_take" 1 [true, false] .f Mi.law_take) (C_law_steps : DFn P w K mg base "_law_steps" 1 [false] .f Mi.law_steps) : DFn P w K mg base "_law_kind" 2 [true, false] .f Mi.law_kind :=
  dfn_ok (k := 1) Dn sc_law_kind rfl bi_law_kind fun cdv A outer s H E H0 pr pf hr tk => by
    have sc := sc_law_kind; have hu := hr.units; have hv := room_hv hr
    exact (dss_cons (ds_set 2 (pf 2 rfl) sc.nd rfl (.inl rfl) (de_calls rfl rfl tk C_law_steps hr (by decide) rfl (dg_d (de_calls rfl rfl tk C_law_take hr (by decide) rfl (dg_s 0 (dg_d de_int dg_nil) rfl (.inr (.inl rfl)))) dg_nil)))
      (dss_cons (ds_set 3 (pf 3 rfl) sc.nd rfl (.inl rfl) (de_calls rfl rfl tk C_law_steps hr (by decide) rfl (dg_d (de_calls rfl rfl tk C_law_take hr (by decide) rfl (dg_s 0 (dg_d de_int dg_nil) rfl (.inr (.inl rfl)))) dg_nil)))
      (dss_cons (ds_if (dt_cmp (op_gtA hv) opd_gtA (de_calls rfl rfl tk C_law_take hr (by decide) rfl (dg_s 0 (dg_d de_int dg_nil) rfl (.inr (.inl rfl)))) de_int (nomark _)) (dss_one (ds_set 3 (pf 3 rfl) sc.nd rfl (.inl rfl) (de_fz (do_lst da_nil)))) dss_nil)
      (dss_cons (ds_if (dt_cmp (op_eqD hu) opd_eq (de_calls rfl rfl tk C_law_take hr (by decide) rfl (dg_s 0 (dg_d de_int dg_nil) rfl (.inr (.inl rfl)))) de_int (nomark _)) (dss_one (ds_set 2 (pf 2 rfl) sc.nd rfl (.inl rfl) (de_fz (do_sortSet rfl rfl hv rfl T.n_sorted rfl T.n_set (da_cons (de_fz (do_lc rfl sc.nd (by exact (di_range1 rfl T.n_range (da_cons de_int da_nil))) (blkOk_by (N := N_law_kind) (sc := defScope s_law_kind) (own := [("turn", 4)]) (by decide +kernel)) rfl rfl (fun _ _ _ _ _ _ => (dg_name 4 (pf 4 rfl) sc.nd rfl (.inl rfl))) (fun _ _ _ _ _ _ => dts_nil) (fun _ _ _ _ _ _ => (de_tup (da_cons (de_op op_sub opd_sub (de_calls rfl rfl takes0 C_law_take hr (by decide) rfl (dg_s 0 (dg_d de_int dg_nil) rfl (.inr (.inl rfl)))) de_int) (da_cons (de_op op_addU opd_add de_int (de_calls rfl rfl takes0 C_law_take hr (by decide) rfl (dg_s 0 (dg_d de_int dg_nil) rfl (.inr (.inl rfl))))) da_nil)))))) da_nil))))) dss_nil)
      (dss_one (ds_ret (de_tup (da_cons (de_var 2 rfl (.inl rfl)) (da_cons (de_var 3 rfl (.inl rfl)) (da_cons (de_var 1 rfl (.inl rfl)) da_nil))))))))))
theorem sc_law_some_cells : FnScope N_law_some_cells P_law_some_cells (defScope s_law_some_cells) := ⟨rfl, rfl, rfl, by decide +kernel, rfl, by decide +kernel, by decide +kernel⟩
theorem bi_law_some_cells : BindsF "_law_some_cells" s_law_some_cells P_law_some_cells := fun _ _ _ _ _ _ us hl => match us, hl with | [_, _, _, _, _], _ => rfl
theorem ok_law_some_cells (T : Txt K mg) {fA : Addr} {fd : FuncData} (Dn : DefIn K mg "_law_some_cells" s_law_some_cells fA fd) (C_law_take : DFn P w K mg base "_law_take" 1 [true, false] .f Mi.law_take) : DFn P w K mg base "_law_some_cells" 2 [true, false, false, false, false] .f Mi.law_some_cells :=
  dfn_ok (k := 1) Dn sc_law_some_cells rfl bi_law_some_cells fun cdv A outer s H E H0 pr pf hr tk => by
    have sc := sc_law_some_cells; have hu := hr.units; have hv := room_hv hr
    exact (dss_cons (ds_setO 5 (pf 5 rfl) sc.nd rfl (.inl rfl) (do_lst da_nil))
      (dss_cons (ds_for (passes_of rfl) rfl (di_range1 rfl T.n_range (da_cons (de_var 1 rfl (.inl rfl)) da_nil)) (dg_name 6 (pf 6 rfl) sc.nd rfl (.inl rfl)) (dss_one (ds_for (passes_of rfl) rfl (di_range1 rfl T.n_range (da_cons (de_var 2 rfl (.inl rfl)) da_nil)) (dg_name 7 (pf 7 rfl) sc.nd rfl (.inl rfl)) (dss_one (ds_if (dt_w (dw_and (dt_cmp (op_ninX hv) opd_ninX (de_tup (da_cons (de_var 6 rfl (.inl rfl)) (da_cons (de_var 7 rfl (.inl rfl)) da_nil))) (de_var 3 rfl (.inl rfl)) (by with_unfolding_all rfl)) (dw_and1 (dt_cmp (op_eqD hu) opd_eq (de_calls rfl rfl tk C_law_take hr (by decide) rfl (dg_s 0 (dg_d (de_var 4 rfl (.inl rfl)) dg_nil) rfl (.inl rfl))) de_int (nomark _))))) (dss_one (ds_expr (de_bmO (id := "append") (T := "list") 5 PySem.F.slot_list_append PySem.F.type_list_append mt_append mo_append (da_cons (de_tup (da_cons (de_var 6 rfl (.inl rfl)) (da_cons (de_var 7 rfl (.inl rfl)) da_nil))) da_nil) rfl (.inl rfl)))) dss_nil)))))
      (dss_one (ds_ret (de_rd 5 (pf 5 rfl) rfl (.inl rfl))))))
theorem sc_law_parts : FnScope N_law_parts P_law_parts (defScope s_law_parts) := ⟨rfl, rfl, rfl, by decide +kernel, rfl, by decide +kernel, by decide +kernel⟩
theorem bi_law_parts : BindsF "_law_parts" s_law_parts P_law_parts := fun _ _ _ _ _ _ us hl => match us, hl with | [_, _, _], _ => rfl
theorem ok_law_parts (T : Txt K mg) {fA : Addr} {fd : FuncData} (Dn : DefIn K mg "_law_parts" s_law_parts fA fd) (C_law_begin : DFn P w K mg base "_law_begin" 2 [false, false] .o Mi.law_begin) (C_law_take : DFn P w K mg base "_law_take" 1 [true, false] .f Mi.law_take) (C_law_kind : DFn P w K mg base "_law_kind" 2 [true, false] .f Mi.law_kind) (C_law_some_cells : DFn P w K mg base "_law_some_cells" 2 [true, false, false, false, false] .f Mi.law_some_cells) : DFn P w K mg base "_law_parts" 3 [false, false, false] .f Mi.law_parts :=
  dfn_ok (k := 2) Dn sc_law_parts rfl bi_law_parts fun cdv A outer s H E H0 pr pf hr tk => by
    have sc := sc_law_parts; have hu := hr.units; have hv := room_hv hr
    exact (dss_cons (ds_setX 3 (pf 3 rfl) sc.nd rfl (.inl rfl) (dx_calls rfl rfl tk C_law_begin hr (by decide) rfl (dg_d (de_var 0 rfl (.inl rfl)) (dg_d (de_var 1 rfl (.inl rfl)) dg_nil))))
      (dss_cons (ds_asg (de_ix (ix_X hv) opd_ixX (de_fz (do_lst (da_cons (de_tup (da_cons de_int (da_cons de_int da_nil))) (da_cons (de_tup (da_cons de_int (da_cons de_int da_nil))) (da_cons (de_tup (da_cons de_int (da_cons de_int da_nil))) (da_cons (de_tup (da_cons de_int (da_cons de_int da_nil))) (da_cons (de_tup (da_cons de_int (da_cons de_int da_nil))) (da_cons (de_tup (da_cons de_int (da_cons de_int da_nil))) (da_cons (de_tup (da_cons de_int (da_cons de_int da_nil))) (da_cons (de_tup (da_cons de_int (da_cons de_int da_nil))) da_nil)))))))))) (de_calls rfl rfl tk C_law_take hr (by decide) rfl (dg_s 3 (dg_d (de_var 2 rfl (.inl rfl)) dg_nil) rfl (.inl rfl)))) (dg_tup rfl rfl (dgs_cons (dg_name 4 (pf 4 rfl) sc.nd rfl (.inr rfl)) (dgs_cons (dg_name 5 (pf 5 rfl) sc.nd rfl (.inl rfl)) dgs_nil))))
      (dss_cons (ds_set 6 (pf 6 rfl) sc.nd rfl (.inr rfl) (de_fz (do_lst da_nil)))
      (dss_cons (ds_if (dt_cmp (op_eqD hu) opd_eq (de_calls rfl rfl tk C_law_take hr (by decide) rfl (dg_s 3 (dg_d de_int dg_nil) rfl (.inl rfl))) de_int (nomark _)) (dss_one (ds_set 6 (pf 6 rfl) sc.nd rfl (.inr rfl) (de_slice rfl (de_calls rfl rfl tk C_law_some_cells hr (by decide) rfl (dg_s 3 (dg_d (de_var 4 rfl (.inr (.inl rfl))) (dg_d (de_var 5 rfl (.inl rfl)) (dg_d (de_fz (do_lst da_nil)) (dg_d de_int dg_nil)))) rfl (.inl rfl))) dp_none (dp_some de_int)))) dss_nil)
      (dss_cons (ds_setC 7 (pf 7 rfl) sc.nd rfl (.inl rfl) (dc_dict (.cons (fun _ => de_str) (fun _ => (de_calls rfl rfl tk C_law_kind hr (by decide) rfl (dg_s 3 (dg_d de_int dg_nil) rfl (.inl rfl)))) .nil) rfl rfl (by simp) (by decide)))
      (dss_cons (ds_setG 7 (set_A hv) setc_A (de_calls rfl rfl tk C_law_kind hr (by decide) rfl (dg_s 3 (dg_d de_int dg_nil) rfl (.inl rfl))) (de_ix (ix_X hv) opd_ixX de_str (de_calls rfl rfl tk C_law_take hr (by decide) rfl (dg_s 3 (dg_d de_int dg_nil) rfl (.inl rfl)))) rfl (.inl rfl))
      (dss_cons (ds_if (dt_cmp (op_eqD hu) opd_eq (de_calls rfl rfl tk C_law_take hr (by decide) rfl (dg_s 3 (dg_d de_int dg_nil) rfl (.inl rfl))) de_int (nomark _)) (dss_one (ds_setG 7 (set_A hv) setc_A (de_calls rfl rfl tk C_law_kind hr (by decide) rfl (dg_s 3 (dg_d (de_calls rfl rfl tk C_law_take hr (by decide) rfl (dg_s 3 (dg_d de_int dg_nil) rfl (.inl rfl))) dg_nil) rfl (.inl rfl))) de_str rfl (.inl rfl))) dss_nil)
      (dss_cons (ds_if (dt_cmp (op_eqD hu) opd_eq (de_calls rfl rfl tk C_law_take hr (by decide) rfl (dg_s 3 (dg_d de_int dg_nil) rfl (.inl rfl))) de_int (nomark _)) (dss_one (ds_for (passes_of rfl) rfl (di_gen rfl de_str) (dg_name 8 (pf 8 rfl) sc.nd rfl (.inl rfl)) (dss_one (ds_setG 7 (set_A hv) setc_A (de_calls rfl rfl tk C_law_kind hr (by decide) rfl (dg_s 3 (dg_d (de_calls rfl rfl tk C_law_take hr (by decide) rfl (dg_s 3 (dg_d de_int dg_nil) rfl (.inl rfl))) dg_nil) rfl (.inl rfl))) (de_var 8 rfl (.inl rfl)) rfl (.inl rfl))))) dss_nil)
      (dss_cons (ds_set 9 (pf 9 rfl) sc.nd rfl (.inl rfl) (de_tup (da_cons (de_fz (do_lst da_nil)) (da_cons (de_fz (do_lst da_nil)) da_nil))))
      (dss_cons (ds_if (dt_cmp (op_eqD hu) opd_eq (de_calls rfl rfl tk C_law_take hr (by decide) rfl (dg_s 3 (dg_d de_int dg_nil) rfl (.inl rfl))) de_int (nomark _)) (dss_one (ds_set 9 (pf 9 rfl) sc.nd rfl (.inl rfl) (de_tup (da_cons (de_calls rfl rfl tk C_law_some_cells hr (by decide) rfl (dg_s 3 (dg_d (de_var 4 rfl (.inr (.inl rfl))) (dg_d (de_var 5 rfl (.inl rfl)) (dg_d (de_var 6 rfl (.inr (.inl rfl))) (dg_d de_int dg_nil)))) rfl (.inl rfl))) (da_cons (de_calls rfl rfl tk C_law_some_cells hr (by decide) rfl (dg_s 3 (dg_d (de_var 4 rfl (.inr (.inl rfl))) (dg_d (de_var 5 rfl (.inl rfl)) (dg_d (de_var 6 rfl (.inr (.inl rfl))) (dg_d de_int dg_nil)))) rfl (.inl rfl))) da_nil))))) (dss_one (ds_if (dt_cmp (op_eqD hu) opd_eq (de_calls rfl rfl tk C_law_take hr (by decide) rfl (dg_s 3 (dg_d de_int dg_nil) rfl (.inl rfl))) de_int (nomark _)) (dss_cons (ds_set 9 (pf 9 rfl) sc.nd rfl (.inl rfl) (de_tup (da_cons (de_fz (do_lc rfl sc.nd (by exact (di_range1 rfl T.n_range (da_cons (de_var 5 rfl (.inl rfl)) da_nil))) (blkOk_by (N := N_law_parts) (sc := defScope s_law_parts) (own := [("c", 10)]) (by decide +kernel)) rfl rfl (fun _ _ _ _ _ _ => (dg_name 10 (pf 10 rfl) sc.nd rfl (.inl rfl))) (fun _ _ _ _ _ _ => dts_nil) (fun _ _ _ _ _ _ => (de_tup (da_cons de_int (da_cons (de_var 10 rfl (.inl rfl)) da_nil)))))) (da_cons (de_fz (do_lc rfl sc.nd (by exact (di_range1 rfl T.n_range (da_cons (de_var 5 rfl (.inl rfl)) da_nil))) (blkOk_by (N := N_law_parts) (sc := defScope s_law_parts) (own := [("c", 10)]) (by decide +kernel)) rfl rfl (fun _ _ _ _ _ _ => (dg_name 10 (pf 10 rfl) sc.nd rfl (.inl rfl))) (fun _ _ _ _ _ _ => dts_nil) (fun _ _ _ _ _ _ => (de_tup (da_cons (de_op op_sub opd_sub (de_var 4 rfl (.inr (.inl rfl))) de_int) (da_cons (de_var 10 rfl (.inl rfl)) da_nil)))))) da_nil))))
      (dss_one (ds_set 9 (pf 9 rfl) sc.nd rfl (.inl rfl) (de_callTy call_tuple_of cd_tup rfl T.n_tuple (by decide +kernel) (da_cons (de_fz (do_lc rfl sc.nd (di_gen rfl (de_var 9 rfl (.inl rfl))) (blkOk_by (N := N_law_parts) (sc := defScope s_law_parts) (own := [("row", 11)]) (by decide +kernel)) rfl rfl (fun _ _ _ _ _ _ => (dg_name 11 (pf 11 rfl) sc.nd rfl (.inl rfl))) (fun _ _ _ _ _ _ => dts_nil) (fun _ _ _ _ _ _ => (de_fz (do_lc (own := [("cell", 12)]) rfl sc.nd (di_gen rfl (de_var 11 rfl (.inl rfl))) (blkOk_by (N := N_law_parts) (sc := ({ kind := PySem.ScopeKind.function, names := [ (PySem.Str.ofString ".0", PySem.NameKind.local), (PySem.Str.ofString "row", PySem.NameKind.local), (PySem.Str.ofString "holes", PySem.NameKind.cell)], isGenerator := false, isCoroutine := false, more := [] : PySem.Scope })) (scope := ({ kind := PySem.ScopeKind.function, names := [ (PySem.Str.ofString ".0", PySem.NameKind.local), (PySem.Str.ofString "cell", PySem.NameKind.local), (PySem.Str.ofString "holes", PySem.NameKind.free)], isGenerator := false, isCoroutine := false, more := [] : PySem.Scope })) (own := [("cell", 12)]) (by decide +kernel)) rfl rfl (fun _ _ _ _ _ _ => (dg_name 12 (pf 12 rfl) sc.nd rfl (.inl rfl))) (fun _ _ _ _ _ _ => (dts_one (dt_cmp (op_ninX hv) opd_ninX (de_var 12 rfl (.inl rfl)) (de_var 6 rfl (.inr (.inl rfl))) (by with_unfolding_all rfl)))) (fun _ _ _ _ _ _ => (de_var 12 rfl (.inl rfl)))))))) da_nil))))) dss_nil)))
      (dss_one (ds_ret (de_tup (da_cons (de_var 4 rfl (.inr (.inl rfl))) (da_cons (de_var 5 rfl (.inl rfl)) (da_cons (de_var 6 rfl (.inr (.inl rfl))) (da_cons (de_rd 7 (pf 7 rfl) rfl (.inl rfl)) (da_cons (de_var 9 rfl (.inl rfl)) (da_cons (de_ix (ix_X hv) opd_ixX (de_fz (do_lst (da_cons de_str (da_cons de_str da_nil)))) (de_calls rfl rfl tk C_law_take hr (by decide) rfl (dg_s 3 (dg_d de_int dg_nil) rfl (.inl rfl)))) da_nil)))))))))))))))))))
theorem sc_Yard_on_board : FnScope N_Yard_on_board P_Yard_on_board (defScope s_Yard_on_board) := ⟨rfl, rfl, rfl, by decide +kernel, rfl, by decide +kernel, by decide +kernel⟩
theorem bi_Yard_on_board : BindsM "on_board" "Yard.on_board" s_Yard_on_board P_Yard_on_board := fun _ _ _ _ _ _ us hl => match us, hl with | [_, _], _ => rfl
theorem ok_Yard_on_board (T : Txt K mg) {fA : Addr} {fd : FuncData} (Dn : MethIn K mg "Yard" "on_board" "Yard.on_board" s_Yard_on_board fA fd) : DMe P w K mg base "Yard" "on_board" 1 [false, false] Mi.Yard_on_board :=
  dme_ok (k := 0) Dn sc_Yard_on_board rfl bi_Yard_on_board fun cdv A outer s H E H0 pr pf hr tk => by
    have sc := sc_Yard_on_board; have hu := hr.units; have hv := room_hv hr
    exact (dss_one (ds_ret (de_and (de_chain (op_leA hv) opd_leA (op_ltA hv) opd_ltA de_int (de_ix (ix_X hv) opd_ixX (de_var 1 rfl (.inl rfl)) de_int) (de_fld rfl T.k_Yard (by decide) (de_var 0 rfl (.inl rfl)))) (de_one (de_chain (op_leA hv) opd_leA (op_ltA hv) opd_ltA de_int (de_ix (ix_X hv) opd_ixX (de_var 1 rfl (.inl rfl)) de_int) (de_fld rfl T.k_Yard (by decide) (de_var 0 rfl (.inl rfl))))))))
theorem sc_Yard_is_free : FnScope N_Yard_is_free P_Yard_is_free (defScope s_Yard_is_free) := ⟨rfl, rfl, rfl, by decide +kernel, rfl, by decide +kernel, by decide +kernel⟩
theorem bi_Yard_is_free : BindsM "is_free" "Yard.is_free" s_Yard_is_free P_Yard_is_free := fun _ _ _ _ _ _ us hl => match us, hl with | [_, _], _ => rfl
theorem ok_Yard_is_free (T : Txt K mg) {fA : Addr} {fd : FuncData} (Dn : MethIn K mg "Yard" "is_free" "Yard.is_free" s_Yard_is_free fA fd) (C_Yard_on_board : DMe P w K mg base "Yard" "on_board" 1 [false, false] Mi.Yard_on_board) : DMe P w K mg base "Yard" "is_free" 2 [false, false] Mi.Yard_is_free :=
  dme_ok (k := 1) Dn sc_Yard_is_free rfl bi_Yard_is_free fun cdv A outer s H E H0 pr pf hr tk => by
    have sc := sc_Yard_is_free; have hu := hr.units; have hv := room_hv hr
    exact (dss_one (ds_ret (de_and (de_meth rfl rfl tk C_Yard_on_board hr (by decide) (de_var 0 rfl (.inl rfl)) (dg_d (de_var 1 rfl (.inl rfl)) dg_nil)) (de_one (de_cmp (op_ninX hv) opd_ninX (de_var 1 rfl (.inl rfl)) (de_fld rfl T.k_Yard (by decide) (de_var 0 rfl (.inl rfl))) (by with_unfolding_all rfl))))))
theorem sc_Yard_ini : FnScope N_Yard_ini P_Yard_ini (defScope s_Yard_ini) := ⟨rfl, rfl, rfl, by decide +kernel, rfl, by decide +kernel, by decide +kernel⟩
theorem bi_Yard_ini : BindsM "__init__" "Yard.__init__" s_Yard_ini P_Yard_ini := fun _ _ _ _ _ _ us hl => match us, hl with | [_, _, _, _, _, _, _], _ => rfl
theorem ok_Yard_ini (T : Txt K mg) {fA : Addr} {fd : FuncData} (Dn : InitIn K mg "Yard" "Yard.__init__" s_Yard_ini fA fd) (C_rising : DFn P w K mg base "rising" 1 [false] .f Mi.rising) (C_is_kind : DFn P w K mg base "is_kind" 2 [false, false] .f Mi.is_kind) (C_Yard_on_board : DMe P w K mg base "Yard" "on_board" 1 [false, false] Mi.Yard_on_board) (C_Yard_is_free : DMe P w K mg base "Yard" "is_free" 2 [false, false] Mi.Yard_is_free) : DMk P w K mg base "Yard" 3 6 (iniF 13 "Yard" Mi.Yard_ini) :=
  dmk_ok (k := 2) Dn sc_Yard_ini rfl bi_Yard_ini fun cdv A outer s H E hr tk => by
    have sc := sc_Yard_ini; have hu := hr.units; have hv := room_hv hr
    exact (is_cons (is_if (fun _ => (dt_w (dw_or (dt_not (dt_chain (op_leA hv) opd_leA (op_leA hv) opd_leA de_int (de_var 1 rfl (.inl rfl)) (de_globI rfl T.c_MOST_SIDE))) (dw_or (dt_not (dt_chain (op_leA hv) opd_leA (op_leA hv) opd_leA de_int (de_var 2 rfl (.inl rfl)) (de_globI rfl T.c_MOST_SIDE))) (dw_or1 (dt_cmp (op_ninX hv) opd_ninX (de_var 6 rfl (.inl rfl)) (de_tup (da_cons de_str (da_cons de_str da_nil))) (by with_unfolding_all rfl))))))) (fun _ => (ds_raises rfl rfl tk (T.exs.exc "BadYard" rfl) rfl)))
      (is_cons (is_setF rfl T.k_Yard (by decide) (fun _ => (de_var 1 rfl (.inl rfl))) rfl)
      (is_cons (is_setF rfl T.k_Yard (by decide) (fun _ => (de_var 2 rfl (.inl rfl))) rfl)
      (is_cons (is_setF rfl T.k_Yard (by decide) (fun _ => (de_fz (do_callTy call_list_of co_list rfl T.n_list (by decide +kernel) (da_cons (de_var 3 rfl (.inl rfl)) da_nil)))) rfl)
      (is_cons (is_setF rfl T.k_Yard (by decide) (fun _ => (de_var 6 rfl (.inl rfl))) rfl)
      (is_cons (is_if (fun _ => (dt_w (dw_or (dt_not (dt_val (de_calls rfl rfl tk C_rising hr (by decide) rfl (dg_d (de_var 3 rfl (.inl rfl)) dg_nil)))) (dw_or1 (dt_not (dt_val (de_callB (cr_all rfl) cd_all rfl T.n_all (by decide +kernel) (da_cons (de_fz (do_lc rfl sc.nd (di_gen rfl (de_var 3 rfl (.inl rfl))) (blkOk_by (N := N_Yard_ini) (sc := defScope s_Yard_ini) (own := [("cell", 12)]) (by decide +kernel)) rfl rfl (fun _ _ _ _ _ _ => (dg_name 12 (fun _ hp => absurd hp List.not_mem_nil) sc.nd rfl (.inl rfl))) (fun _ _ _ _ _ _ => dts_nil) (fun _ _ _ _ _ _ => (de_meth rfl rfl takes0 C_Yard_on_board hr (by decide) (de_var 0 rfl (.inr (.inl rfl))) (dg_d (de_var 12 rfl (.inl rfl)) dg_nil))))) da_nil)))))))) (fun _ => (ds_raises rfl rfl tk (T.exs.exc "BadYard" rfl) rfl)))
      (is_cons (is_if (fun _ => (dt_w (dw_or (dt_not (dt_chain (op_leA hv) opd_leA (op_leA hv) opd_leA de_int (de_callB (callR_or call_len call_lenF) (cd_len.or cd_lenK) rfl T.n_len (by decide +kernel) (da_cons (de_var 4 rfl (.inr (.inl rfl))) da_nil)) (de_globI rfl T.c_MOST_KINDS))) (dw_or1 (dt_not (dt_val (de_callB (cr_all rfl) cd_all rfl T.n_all (by decide +kernel) (da_cons (de_fz (do_lc rfl sc.nd (di_gen rfl (de_var 4 rfl (.inr (.inl rfl)))) (blkOk_by (N := N_Yard_ini) (sc := defScope s_Yard_ini) (own := [("letter", 8)]) (by decide +kernel)) rfl rfl (fun _ _ _ _ _ _ => (dg_name 8 (fun _ hp => absurd hp List.not_mem_nil) sc.nd rfl (.inl rfl))) (fun _ _ _ _ _ _ => dts_nil) (fun _ _ _ _ _ _ => (de_calls rfl rfl takes0 C_is_kind hr (by decide) rfl (dg_d (de_var 8 rfl (.inl rfl)) (dg_d (de_ix (ix_X hv) opd_ixX (de_var 4 rfl (.inr (.inl rfl))) (de_var 8 rfl (.inl rfl))) dg_nil)))))) da_nil)))))))) (fun _ => (ds_raises rfl rfl tk (T.exs.exc "BadYard" rfl) rfl)))
      (is_cons (is_forIf 7 (by decide) (passes_of rfl) rfl sc.nd rfl (.inl rfl) (fun _ => (di_gen rfl (de_var 5 rfl (.inl rfl)))) (fun _ => (dt_w (dw_or (dt_not (dt_val (de_calls rfl rfl tk C_rising hr (by decide) rfl (dg_d (de_var 7 rfl (.inl rfl)) dg_nil)))) (dw_or1 (dt_not (dt_val (de_callB (cr_all rfl) cd_all rfl T.n_all (by decide +kernel) (da_cons (de_fz (do_lc rfl sc.nd (di_gen rfl (de_var 7 rfl (.inl rfl))) (blkOk_by (N := N_Yard_ini) (sc := defScope s_Yard_ini) (own := [("cell", 12)]) (by decide +kernel)) rfl rfl (fun _ _ _ _ _ _ => (dg_name 12 (fun _ hp => absurd hp List.not_mem_nil) sc.nd rfl (.inl rfl))) (fun _ _ _ _ _ _ => dts_nil) (fun _ _ _ _ _ _ => (de_meth rfl rfl takes0 C_Yard_is_free hr (by decide) (de_var 0 rfl (.inr (.inl rfl))) (dg_d (de_var 12 rfl (.inl rfl)) dg_nil))))) da_nil)))))))) (fun _ => (ds_raises rfl rfl tk (T.exs.exc "BadYard" rfl) rfl)))
      (is_cons (is_setF rfl T.k_Yard (by decide) (fun _ => (de_tup (da_cons (de_fz (do_callTy call_list_of co_list rfl T.n_list (by decide +kernel) (da_cons (de_ix (ix_X hv) opd_ixX (de_var 5 rfl (.inl rfl)) de_int) da_nil))) (da_cons (de_fz (do_callTy call_list_of co_list rfl T.n_list (by decide +kernel) (da_cons (de_ix (ix_X hv) opd_ixX (de_var 5 rfl (.inl rfl)) de_int) da_nil))) da_nil)))) rfl)
      (is_kinds 8 (by decide) rfl T.k_Yard (by decide) (Nat.lt_of_le_of_lt (Nat.add_le_add_left (by decide : 1 ≤ 130) _) hv) (passes_of rfl) rfl sc.nd rfl rfl (.inl rfl) (by decide) (fun _ => (di_gen rfl (de_fz (do_callB (X := _) (callR_or (cr_sortD rfl hv) (call_sortedD rfl)) (co_sortL.or co_sortK) (by exact rfl) T.n_sorted (by decide +kernel) (da_cons (de_var 4 rfl (.inr (.inl rfl))) da_nil))))) (fun _ => (de_ix (ix_X hv) opd_ixX (de_var 4 rfl (.inr (.inl rfl))) (de_var 8 rfl (.inl rfl)))) (fun _ => (dg_tup rfl rfl (dgs_cons (dg_name 9 (fun _ hp => absurd hp List.not_mem_nil) sc.nd rfl (.inl rfl)) (dgs_cons (dg_name 10 (fun _ hp => absurd hp List.not_mem_nil) sc.nd rfl (.inl rfl)) (dgs_cons (dg_name 11 (fun _ hp => absurd hp List.not_mem_nil) sc.nd rfl (.inl rfl)) dgs_nil))))) (fun _ => (de_var 8 rfl (.inl rfl))) (fun _ => (de_tup (da_cons (de_fz (do_callTy call_list_of co_list rfl T.n_list (by decide +kernel) (da_cons (de_var 9 rfl (.inl rfl)) da_nil))) (da_cons (de_fz (do_callTy call_list_of co_list rfl T.n_list (by decide +kernel) (da_cons (de_var 10 rfl (.inl rfl)) da_nil))) (da_cons (de_var 11 rfl (.inl rfl)) da_nil)))))))))))))))
theorem sc_law_yard : FnScope N_law_yard P_law_yard (defScope s_law_yard) := ⟨rfl, rfl, rfl, by decide +kernel, rfl, by decide +kernel, by decide +kernel⟩
theorem bi_law_yard : BindsF "_law_yard" s_law_yard P_law_yard := fun _ _ _ _ _ _ us hl => match us, hl with | [_], _ => rfl
theorem ok_law_yard (T : Txt K mg) {fA : Addr} {fd : FuncData} (Dn : DefIn K mg "_law_yard" s_law_yard fA fd) (C_Yard_ini : DMk P w K mg base "Yard" 3 6 (iniF 13 "Yard" Mi.Yard_ini)) : DFn P w K mg base "_law_yard" 5 [false] .f Mi.law_yard2 :=
  dfn_ok (k := 4) Dn sc_law_yard rfl bi_law_yard fun cdv A outer s H E H0 pr pf hr tk => by
    have sc := sc_law_yard; have hu := hr.units; have hv := room_hv hr
    exact (dss_cons (ds_setC 1 (pf 1 rfl) sc.nd rfl (.inl rfl) dc_new)
      (dss_cons (ds_for (passes_of rfl) rfl (di_gen rfl (de_ix (ix_X hv) opd_ixX (de_var 0 rfl (.inl rfl)) de_int)) (dg_name 2 (pf 2 rfl) sc.nd rfl (.inl rfl)) (dss_one (ds_setG 1 (set_A hv) setc_A (de_tup (da_cons (de_fz (do_callTy call_list_of co_list rfl T.n_list (by decide +kernel) (da_cons (de_ix (ix_X hv) opd_ixX (de_ix (ix_X hv) opd_ixX (de_ix (ix_X hv) opd_ixX (de_var 0 rfl (.inl rfl)) de_int) (de_var 2 rfl (.inl rfl))) de_int) da_nil))) (da_cons (de_fz (do_callTy call_list_of co_list rfl T.n_list (by decide +kernel) (da_cons (de_ix (ix_X hv) opd_ixX (de_ix (ix_X hv) opd_ixX (de_ix (ix_X hv) opd_ixX (de_var 0 rfl (.inl rfl)) de_int) (de_var 2 rfl (.inl rfl))) de_int) da_nil))) (da_cons (de_ix (ix_X hv) opd_ixX (de_ix (ix_X hv) opd_ixX (de_ix (ix_X hv) opd_ixX (de_var 0 rfl (.inl rfl)) de_int) (de_var 2 rfl (.inl rfl))) de_int) da_nil)))) (de_var 2 rfl (.inl rfl)) rfl (.inl rfl))))
      (dss_one (ds_ret (de_make rfl tk C_Yard_ini hr (by decide) rfl (da_cons (de_ix (ix_X hv) opd_ixX (de_var 0 rfl (.inl rfl)) de_int) (da_cons (de_ix (ix_X hv) opd_ixX (de_var 0 rfl (.inl rfl)) de_int) (da_cons (de_fz (do_callTy call_list_of co_list rfl T.n_list (by decide +kernel) (da_cons (de_ix (ix_X hv) opd_ixX (de_var 0 rfl (.inl rfl)) de_int) da_nil))) (da_cons (de_rd 1 (pf 1 rfl) rfl (.inl rfl)) (da_cons (de_tup (da_cons (de_fz (do_callTy call_list_of co_list rfl T.n_list (by decide +kernel) (da_cons (de_ix (ix_X hv) opd_ixX (de_ix (ix_X hv) opd_ixX (de_var 0 rfl (.inl rfl)) de_int) de_int) da_nil))) (da_cons (de_fz (do_callTy call_list_of co_list rfl T.n_list (by decide +kernel) (da_cons (de_ix (ix_X hv) opd_ixX (de_ix (ix_X hv) opd_ixX (de_var 0 rfl (.inl rfl)) de_int) de_int) da_nil))) da_nil))) (da_cons (de_ix (ix_X hv) opd_ixX (de_var 0 rfl (.inl rfl)) de_int) da_nil)))))))))))
theorem sc_law_even : FnScope N_law_even P_law_even (defScope s_law_even) := ⟨rfl, rfl, rfl, by decide +kernel, rfl, by decide +kernel, by decide +kernel⟩
theorem bi_law_even : BindsF "_law_even" s_law_even P_law_even := fun _ _ _ _ _ _ us hl => match us, hl with | [_, _], _ => rfl
theorem ok_law_even (T : Txt K mg) {fA : Addr} {fd : FuncData} (Dn : DefIn K mg "_law_even" s_law_even fA fd) (C_law_begin : DFn P w K mg base "_law_begin" 2 [false, false] .o Mi.law_begin) (C_law_take : DFn P w K mg base "_law_take" 1 [true, false] .f Mi.law_take) (C_law_parts : DFn P w K mg base "_law_parts" 3 [false, false, false] .f Mi.law_parts) : DFn P w K mg base "_law_even" 4 [false, false] .f Mi.law_even :=
  dfn_ok (k := 3) Dn sc_law_even rfl bi_law_even fun cdv A outer s H E H0 pr pf hr tk => by
    have sc := sc_law_even; have hu := hr.units; have hv := room_hv hr
    exact (dss_cons (ds_set 2 (pf 2 rfl) sc.nd rfl (.inl rfl) (de_calls rfl rfl tk C_law_parts hr (by decide) rfl (dg_d (de_var 0 rfl (.inl rfl)) (dg_d (de_var 1 rfl (.inl rfl)) (dg_d de_int dg_nil)))))
      (dss_cons (ds_setX 3 (pf 3 rfl) sc.nd rfl (.inl rfl) (dx_calls rfl rfl tk C_law_begin hr (by decide) rfl (dg_d (de_var 0 rfl (.inl rfl)) (dg_d (de_op op_addU opd_add (de_var 1 rfl (.inl rfl)) de_int) dg_nil))))
      (dss_cons (ds_if (dt_cmp (op_eqD hu) opd_eq (de_calls rfl rfl tk C_law_take hr (by decide) rfl (dg_s 3 (dg_d de_int dg_nil) rfl (.inl rfl))) de_int (nomark _)) (dss_one (ds_ret (de_var 2 rfl (.inl rfl)))) dss_nil)
      (dss_cons (ds_asg (de_ix (ix_X hv) opd_ixX (de_fz (do_lst (da_cons (de_tup (da_cons de_int (da_cons de_int da_nil))) (da_cons (de_tup (da_cons de_int (da_cons de_int da_nil))) (da_cons (de_tup (da_cons de_int (da_cons de_int da_nil))) (da_cons (de_tup (da_cons de_int (da_cons de_int da_nil))) da_nil)))))) (de_calls rfl rfl tk C_law_take hr (by decide) rfl (dg_s 3 (dg_d de_int dg_nil) rfl (.inl rfl)))) (dg_tup rfl rfl (dgs_cons (dg_name 4 (pf 4 rfl) sc.nd rfl (.inr rfl)) (dgs_cons (dg_name 5 (pf 5 rfl) sc.nd rfl (.inl rfl)) dgs_nil))))
      (dss_cons (ds_if (dt_cmp (op_eqD hu) opd_eq (de_calls rfl rfl tk C_law_take hr (by decide) rfl (dg_s 3 (dg_d de_int dg_nil) rfl (.inl rfl))) de_int (nomark _)) (dss_cons (ds_set 4 (pf 4 rfl) sc.nd rfl (.inr rfl) (de_op op_addU opd_add de_int (de_calls rfl rfl tk C_law_take hr (by decide) rfl (dg_s 3 (dg_d de_int dg_nil) rfl (.inl rfl)))))
      (dss_one (ds_set 5 (pf 5 rfl) sc.nd rfl (.inl rfl) (de_var 4 rfl (.inr (.inl rfl)))))) dss_nil)
      (dss_cons (ds_set 6 (pf 6 rfl) sc.nd rfl (.inl rfl) (de_tup (da_cons (de_fz (do_lst da_nil)) (da_cons (de_fz (do_lst da_nil)) da_nil))))
      (dss_cons (ds_set 7 (pf 7 rfl) sc.nd rfl (.inl rfl) (de_calls rfl rfl tk C_law_take hr (by decide) rfl (dg_s 3 (dg_d de_int dg_nil) rfl (.inl rfl))))
      (dss_cons (ds_if (dt_cmp (op_eqD hu) opd_eq (de_var 7 rfl (.inl rfl)) de_int (nomark _)) (dss_one (ds_set 6 (pf 6 rfl) sc.nd rfl (.inl rfl) (de_tup (da_cons (de_fz (do_lc rfl sc.nd (by exact (di_range1 rfl T.n_range (da_cons (de_var 5 rfl (.inl rfl)) da_nil))) (blkOk_by (N := N_law_even) (sc := defScope s_law_even) (own := [("c", 9)]) (by decide +kernel)) rfl rfl (fun _ _ _ _ _ _ => (dg_name 9 (pf 9 rfl) sc.nd rfl (.inl rfl))) (fun _ _ _ _ _ _ => dts_nil) (fun _ _ _ _ _ _ => (de_tup (da_cons de_int (da_cons (de_var 9 rfl (.inl rfl)) da_nil)))))) (da_cons (de_fz (do_lc rfl sc.nd (by exact (di_range1 rfl T.n_range (da_cons (de_var 5 rfl (.inl rfl)) da_nil))) (blkOk_by (N := N_law_even) (sc := defScope s_law_even) (own := [("c", 9)]) (by decide +kernel)) rfl rfl (fun _ _ _ _ _ _ => (dg_name 9 (pf 9 rfl) sc.nd rfl (.inl rfl))) (fun _ _ _ _ _ _ => dts_nil) (fun _ _ _ _ _ _ => (de_tup (da_cons (de_op op_sub opd_sub (de_var 4 rfl (.inr (.inl rfl))) de_int) (da_cons (de_var 9 rfl (.inl rfl)) da_nil)))))) da_nil))))) dss_nil)
      (dss_cons (ds_if (dt_cmp (op_eqD hu) opd_eq (de_var 7 rfl (.inl rfl)) de_int (nomark _)) (dss_one (ds_set 6 (pf 6 rfl) sc.nd rfl (.inl rfl) (de_tup (da_cons (de_fz (do_lst (da_cons (de_tup (da_cons de_int (da_cons de_int da_nil))) da_nil))) (da_cons (de_fz (do_lst (da_cons (de_tup (da_cons (de_op op_sub opd_sub (de_var 4 rfl (.inr (.inl rfl))) de_int) (da_cons (de_op op_sub opd_sub (de_var 5 rfl (.inl rfl)) de_int) da_nil))) da_nil))) da_nil))))) dss_nil)
      (dss_cons (ds_if (dt_cmp (op_eqD hu) opd_eq (de_var 7 rfl (.inl rfl)) de_int (nomark _)) (dss_one (ds_set 6 (pf 6 rfl) sc.nd rfl (.inl rfl) (de_tup (da_cons (de_fz (do_lst (da_cons (de_tup (da_cons (de_op op_fdiv opd_div (de_var 4 rfl (.inr (.inl rfl))) de_int) (da_cons (de_op op_fdiv opd_div (de_var 5 rfl (.inl rfl)) de_int) da_nil))) da_nil))) (da_cons (de_fz (do_lst (da_cons (de_tup (da_cons (de_op op_fdiv opd_div (de_var 4 rfl (.inr (.inl rfl))) de_int) (da_cons (de_op op_fdiv opd_div (de_var 5 rfl (.inl rfl)) de_int) da_nil))) da_nil))) da_nil))))) dss_nil)
      (dss_cons (ds_set 8 (pf 8 rfl) sc.nd rfl (.inl rfl) (de_fz (do_lst da_nil)))
      (dss_cons (ds_if (dt_w (dw_and (dt_cmp (op_eqD hu) opd_eq (de_calls rfl rfl tk C_law_take hr (by decide) rfl (dg_s 3 (dg_d de_int dg_nil) rfl (.inl rfl))) de_int (nomark _)) (dw_and1 (dt_cmp (op_neD hu) opd_ne (de_var 7 rfl (.inl rfl)) de_int (nomark _))))) (dss_cons (ds_set 8 (pf 8 rfl) sc.nd rfl (.inl rfl) (de_fz (do_lst (da_cons (de_tup (da_cons de_int (da_cons de_int da_nil))) da_nil))))
      (dss_one (ds_set 6 (pf 6 rfl) sc.nd rfl (.inl rfl) (de_callTy call_tuple_of cd_tup rfl T.n_tuple (by decide +kernel) (da_cons (de_fz (do_lc rfl sc.nd (di_gen rfl (de_var 6 rfl (.inl rfl))) (blkOk_by (N := N_law_even) (sc := defScope s_law_even) (own := [("row", 10)]) (by decide +kernel)) rfl rfl (fun _ _ _ _ _ _ => (dg_name 10 (pf 10 rfl) sc.nd rfl (.inl rfl))) (fun _ _ _ _ _ _ => dts_nil) (fun _ _ _ _ _ _ => (de_fz (do_lc (own := [("cell", 11)]) rfl sc.nd (di_gen rfl (de_var 10 rfl (.inl rfl))) (blkOk_by (N := N_law_even) (sc := ({ kind := PySem.ScopeKind.function, names := [(PySem.Str.ofString ".0", PySem.NameKind.local), (PySem.Str.ofString "row", PySem.NameKind.local)], isGenerator := false, isCoroutine := false, more := [] : PySem.Scope })) (scope := ({ kind := PySem.ScopeKind.function, names := [(PySem.Str.ofString ".0", PySem.NameKind.local), (PySem.Str.ofString "cell", PySem.NameKind.local)], isGenerator := false, isCoroutine := false, more := [] : PySem.Scope })) (own := [("cell", 11)]) (by decide +kernel)) rfl rfl (fun _ _ _ _ _ _ => (dg_name 11 (pf 11 rfl) sc.nd rfl (.inl rfl))) (fun _ _ _ _ _ _ => (dts_one (dt_cmp (op_neD hu) opd_ne (de_var 11 rfl (.inl rfl)) (de_tup (da_cons de_int (da_cons de_int da_nil))) (nomark _)))) (fun _ _ _ _ _ _ => (de_var 11 rfl (.inl rfl)))))))) da_nil))))) dss_nil)
      (dss_one (ds_ret (de_tup (da_cons (de_var 4 rfl (.inr (.inl rfl))) (da_cons (de_var 5 rfl (.inl rfl)) (da_cons (de_var 8 rfl (.inl rfl)) (da_cons (de_ix (ix_X hv) opd_ixX (de_var 2 rfl (.inl rfl)) de_int) (da_cons (de_var 6 rfl (.inl rfl)) (da_cons (de_ix (ix_X hv) opd_ixX (de_var 2 rfl (.inl rfl)) de_int) da_nil)))))))))))))))))))))
theorem sc_law_names : FnScope N_law_names P_law_names (defScope s_law_names) := ⟨rfl, rfl, rfl, by decide +kernel, rfl, by decide +kernel, by decide +kernel⟩
theorem bi_law_names : BindsF "_law_names" s_law_names P_law_names := fun _ _ _ _ _ _ us hl => match us, hl with | [], _ => rfl
theorem ok_law_names (T : Txt K mg) {fA : Addr} {fd : FuncData} (Dn : DefIn K mg "_law_names" s_law_names fA fd) : DFn P w K mg base "_law_names" 1 [] .f Mi.law_names :=
  dfn_ok (k := 0) Dn sc_law_names rfl bi_law_names fun cdv A outer s H E H0 pr pf hr tk => by
    have sc := sc_law_names; have hu := hr.units; have hv := room_hv hr
    exact (dss_cons (ds_set 0 (pf 0 rfl) sc.nd rfl (.inl rfl) (de_fz (do_lst (da_cons de_str (da_cons de_str (da_cons de_str (da_cons de_str (da_cons de_str (da_cons de_str (da_cons de_str (da_cons de_str da_nil)))))))))))
      (dss_one (ds_ret (de_op op_addU opd_add (de_var 0 rfl (.inl rfl)) (de_fz (do_lc rfl sc.nd (di_gen rfl (de_var 0 rfl (.inl rfl))) (blkOk_by (N := N_law_names) (sc := defScope s_law_names) (own := [("name", 1)]) (by decide +kernel)) rfl rfl (fun _ _ _ _ _ _ => (dg_name 1 (pf 1 rfl) sc.nd rfl (.inl rfl))) (fun _ _ _ _ _ _ => dts_nil) (fun _ _ _ _ _ _ => (de_op op_addU opd_add de_str (de_var 1 rfl (.inl rfl))))))))))
theorem sc_law_over_cell : FnScope N_law_over_cell P_law_over_cell (defScope s_law_over_cell) := ⟨rfl, rfl, rfl, by decide +kernel, rfl, by decide +kernel, by decide +kernel⟩
theorem bi_law_over_cell : BindsF "_law_over_cell" s_law_over_cell P_law_over_cell := fun _ _ _ _ _ _ us hl => match us, hl with | [_, _, _], _ => rfl
theorem ok_law_over_cell (T : Txt K mg) {fA : Addr} {fd : FuncData} (Dn : DefIn K mg "_law_over_cell" s_law_over_cell fA fd) : DFn P w K mg base "_law_over_cell" 1 [false, false, false] .f Mi.law_over_cell :=
  dfn_ok (k := 0) Dn sc_law_over_cell rfl bi_law_over_cell fun cdv A outer s H E H0 pr pf hr tk => by
    have sc := sc_law_over_cell; have hu := hr.units; have hv := room_hv hr
    exact (dss_cons (ds_asg (de_var 2 rfl (.inl rfl)) (dg_tup rfl rfl (dgs_cons (dg_name 3 (pf 3 rfl) sc.nd rfl (.inl rfl)) (dgs_cons (dg_name 4 (pf 4 rfl) sc.nd rfl (.inl rfl)) dgs_nil))))
      (dss_cons (ds_par 5 6 (pf 5 rfl) (pf 6 rfl) rfl sc.nd rfl rfl (by decide) rfl rfl (da_cons (de_ix (ix_X hv) opd_ixX (de_var 0 rfl (.inl rfl)) de_int) (da_cons (de_ix (ix_X hv) opd_ixX (de_var 0 rfl (.inl rfl)) de_int) da_nil)) rfl)
      (dss_cons (ds_if (dt_cmp op_inW opd_inW de_str (de_var 1 rfl (.inl rfl)) (by with_unfolding_all rfl)) (dss_one (ds_set 4 (pf 4 rfl) sc.nd rfl (.inl rfl) (de_op op_sub opd_sub (de_op op_sub opd_sub (de_var 6 rfl (.inl rfl)) de_int) (de_var 4 rfl (.inl rfl))))) dss_nil)
      (dss_one (ds_ret (de_ix (ix_X hv) opd_ixX (de_fz (do_lst (da_cons (de_tup (da_cons (de_var 3 rfl (.inl rfl)) (da_cons (de_var 4 rfl (.inl rfl)) da_nil))) (da_cons (de_tup (da_cons (de_var 4 rfl (.inl rfl)) (da_cons (de_op op_sub opd_sub (de_op op_sub opd_sub (de_var 5 rfl (.inl rfl)) de_int) (de_var 3 rfl (.inl rfl))) da_nil))) (da_cons (de_tup (da_cons (de_op op_sub opd_sub (de_op op_sub opd_sub (de_var 5 rfl (.inl rfl)) de_int) (de_var 3 rfl (.inl rfl))) (da_cons (de_op op_sub opd_sub (de_op op_sub opd_sub (de_var 6 rfl (.inl rfl)) de_int) (de_var 4 rfl (.inl rfl))) da_nil))) (da_cons (de_tup (da_cons (de_op op_sub opd_sub (de_op op_sub opd_sub (de_var 6 rfl (.inl rfl)) de_int) (de_var 4 rfl (.inl rfl))) (da_cons (de_var 3 rfl (.inl rfl)) da_nil))) da_nil)))))) (de_callTy call_intT cd_intT rfl T.n_int (by decide +kernel) (da_cons (de_ix (ix_X hv) opd_ixX (de_var 1 rfl (.inl rfl)) (de_neg de_int)) da_nil))))))))
theorem sc_law_over_step : FnScope N_law_over_step P_law_over_step (defScope s_law_over_step) := ⟨rfl, rfl, rfl, by decide +kernel, rfl, by decide +kernel, by decide +kernel⟩
theorem bi_law_over_step : BindsF "_law_over_step" s_law_over_step P_law_over_step := fun _ _ _ _ _ _ us hl => match us, hl with | [_, _], _ => rfl
theorem ok_law_over_step (T : Txt K mg) {fA : Addr} {fd : FuncData} (Dn : DefIn K mg "_law_over_step" s_law_over_step fA fd) : DFn P w K mg base "_law_over_step" 1 [false, false] .f Mi.law_over_step :=
  dfn_ok (k := 0) Dn sc_law_over_step rfl bi_law_over_step fun cdv A outer s H E H0 pr pf hr tk => by
    have sc := sc_law_over_step; have hu := hr.units; have hv := room_hv hr
    exact (dss_cons (ds_asg (de_var 1 rfl (.inl rfl)) (dg_tup rfl rfl (dgs_cons (dg_name 2 (pf 2 rfl) sc.nd rfl (.inl rfl)) (dgs_cons (dg_name 3 (pf 3 rfl) sc.nd rfl (.inl rfl)) dgs_nil))))
      (dss_cons (ds_if (dt_cmp op_inW opd_inW de_str (de_var 0 rfl (.inl rfl)) (by with_unfolding_all rfl)) (dss_one (ds_set 3 (pf 3 rfl) sc.nd rfl (.inl rfl) (de_op op_sub opd_sub de_int (de_var 3 rfl (.inl rfl))))) dss_nil)
      (dss_cons (ds_asg (de_ix (ix_X hv) opd_ixX (de_fz (do_lst (da_cons (de_tup (da_cons (de_var 2 rfl (.inl rfl)) (da_cons (de_var 3 rfl (.inl rfl)) da_nil))) (da_cons (de_tup (da_cons (de_var 3 rfl (.inl rfl)) (da_cons (de_op op_sub opd_sub de_int (de_var 2 rfl (.inl rfl))) da_nil))) (da_cons (de_tup (da_cons (de_op op_sub opd_sub de_int (de_var 2 rfl (.inl rfl))) (da_cons (de_op op_sub opd_sub de_int (de_var 3 rfl (.inl rfl))) da_nil))) (da_cons (de_tup (da_cons (de_op op_sub opd_sub de_int (de_var 3 rfl (.inl rfl))) (da_cons (de_var 2 rfl (.inl rfl)) da_nil))) da_nil)))))) (de_callTy call_intT cd_intT rfl T.n_int (by decide +kernel) (da_cons (de_ix (ix_X hv) opd_ixX (de_var 0 rfl (.inl rfl)) (de_neg de_int)) da_nil))) (dg_tup rfl rfl (dgs_cons (dg_name 2 (pf 2 rfl) sc.nd rfl (.inl rfl)) (dgs_cons (dg_name 3 (pf 3 rfl) sc.nd rfl (.inl rfl)) dgs_nil))))
      (dss_cons (ds_if (dt_cmp (op_eqD hu) opd_eq (de_ix (ix_X hv) opd_ixX (de_var 0 rfl (.inl rfl)) de_int) de_str (nomark _)) (dss_one (ds_ret (de_tup (da_cons (de_op op_sub opd_sub de_int (de_var 2 rfl (.inl rfl))) (da_cons (de_op op_sub opd_sub de_int (de_var 3 rfl (.inl rfl))) da_nil))))) dss_nil)
      (dss_one (ds_ret (de_tup (da_cons (de_var 2 rfl (.inl rfl)) (da_cons (de_var 3 rfl (.inl rfl)) da_nil)))))))))
theorem sc_law_bears : FnScope N_law_bears P_law_bears (defScope s_law_bears) := ⟨rfl, rfl, rfl, by decide +kernel, rfl, by decide +kernel, by decide +kernel⟩
theorem bi_law_bears : BindsF "_law_bears" s_law_bears P_law_bears := fun _ _ _ _ _ _ us hl => match us, hl with | [_, _], _ => rfl
theorem ok_law_bears (T : Txt K mg) {fA : Addr} {fd : FuncData} (Dn : DefIn K mg "_law_bears" s_law_bears fA fd) (C_law_over_cell : DFn P w K mg base "_law_over_cell" 1 [false, false, false] .f Mi.law_over_cell) (C_law_over_step : DFn P w K mg base "_law_over_step" 1 [false, false] .f Mi.law_over_step) : DFn P w K mg base "_law_bears" 2 [false, false] .f Mi.law_bears :=
  dfn_ok (k := 1) Dn sc_law_bears rfl bi_law_bears fun cdv A outer s H E H0 pr pf hr tk => by
    have sc := sc_law_bears; have hu := hr.units; have hv := room_hv hr
    exact (dss_cons (ds_if (dt_w (dw_and (dt_cmp (op_inX hv) opd_inX (de_ix (ix_X hv) opd_ixX (de_var 1 rfl (.inr (.inl rfl))) (de_neg de_int)) de_str (by with_unfolding_all rfl)) (dw_and1 (dt_cmp (op_neD hu) opd_ne (de_ix (ix_X hv) opd_ixX (de_var 0 rfl (.inr (.inl rfl))) de_int) (de_ix (ix_X hv) opd_ixX (de_var 0 rfl (.inr (.inl rfl))) de_int) (nomark _))))) (dss_one (ds_ret de_bl)) dss_nil)
      (dss_cons (ds_if (dt_cmp (op_neD hu) opd_ne (de_fz (do_callB (X := _) (callR_or (cr_sortD rfl hv) (call_sortedD rfl)) (co_sortL.or co_sortK) (by exact rfl) T.n_sorted (by decide +kernel) (da_cons (de_fz (do_lc rfl sc.nd (di_gen rfl (de_ix (ix_X hv) opd_ixX (de_var 0 rfl (.inr (.inl rfl))) de_int)) (blkOk_by (N := N_law_bears) (sc := defScope s_law_bears) (own := [("cell", 6)]) (by decide +kernel)) rfl rfl (fun _ _ _ _ _ _ => (dg_name 6 (pf 6 rfl) sc.nd rfl (.inl rfl))) (fun _ _ _ _ _ _ => dts_nil) (fun _ _ _ _ _ _ => (de_calls rfl rfl takes0 C_law_over_cell hr (by decide) rfl (dg_d (de_var 0 rfl (.inr (.inl rfl))) (dg_d (de_var 1 rfl (.inr (.inl rfl))) (dg_d (de_var 6 rfl (.inl rfl)) dg_nil))))))) da_nil))) (de_ix (ix_X hv) opd_ixX (de_var 0 rfl (.inr (.inl rfl))) de_int) (nomark _)) (dss_one (ds_ret de_bl)) dss_nil)
      (dss_cons (ds_for (passes_of rfl) rfl (di_gen rfl (de_ix (ix_X hv) opd_ixX (de_var 0 rfl (.inr (.inl rfl))) de_int)) (dg_name 2 (pf 2 rfl) sc.nd rfl (.inl rfl)) (dss_one (ds_for (passes_of rfl) rfl (di_gen rfl (de_slice rfl (de_ix (ix_X hv) opd_ixX (de_ix (ix_X hv) opd_ixX (de_var 0 rfl (.inr (.inl rfl))) de_int) (de_var 2 rfl (.inl rfl))) dp_none (dp_some de_int))) (dg_name 3 (pf 3 rfl) sc.nd rfl (.inl rfl)) (dss_one (ds_if (dt_cmp (op_neD hu) opd_ne (de_fz (do_callB (X := _) (callR_or (cr_sortD rfl hv) (call_sortedD rfl)) (co_sortL.or co_sortK) (by exact rfl) T.n_sorted (by decide +kernel) (da_cons (de_fz (do_lc rfl sc.nd (di_gen rfl (de_var 3 rfl (.inl rfl))) (blkOk_by (N := N_law_bears) (sc := defScope s_law_bears) (own := [("step", 7)]) (by decide +kernel)) rfl rfl (fun _ _ _ _ _ _ => (dg_name 7 (pf 7 rfl) sc.nd rfl (.inl rfl))) (fun _ _ _ _ _ _ => dts_nil) (fun _ _ _ _ _ _ => (de_calls rfl rfl takes0 C_law_over_step hr (by decide) rfl (dg_d (de_var 1 rfl (.inr (.inl rfl))) (dg_d (de_var 7 rfl (.inl rfl)) dg_nil)))))) da_nil))) (de_var 3 rfl (.inl rfl)) (nomark _)) (dss_one (ds_ret de_bl)) dss_nil)))))
      (dss_cons (ds_for (passes_of rfl) rfl (di_gen rfl (de_tup (da_cons de_int (da_cons de_int da_nil)))) (dg_name 4 (pf 4 rfl) sc.nd rfl (.inl rfl)) (dss_cons (ds_set 5 (pf 5 rfl) sc.nd rfl (.inl rfl) (de_ix (ix_X hv) opd_ixX (de_fz (do_lst (da_cons (de_var 4 rfl (.inl rfl)) (da_cons (de_op op_sub opd_sub de_int (de_var 4 rfl (.inl rfl))) da_nil)))) (de_callTy call_int1 cd_int rfl T.n_int (by decide +kernel) (da_cons (de_cmp (op_eqD hu) opd_eq (de_ix (ix_X hv) opd_ixX (de_var 1 rfl (.inr (.inl rfl))) de_int) de_str (nomark _)) da_nil))))
      (dss_one (ds_if (dt_cmp (op_neD hu) opd_ne (de_fz (do_callB (X := _) (callR_or (cr_sortD rfl hv) (call_sortedD rfl)) (co_sortL.or co_sortK) (by exact rfl) T.n_sorted (by decide +kernel) (da_cons (de_fz (do_lc rfl sc.nd (di_gen rfl (de_ix (ix_X hv) opd_ixX (de_ix (ix_X hv) opd_ixX (de_var 0 rfl (.inr (.inl rfl))) de_int) (de_var 4 rfl (.inl rfl)))) (blkOk_by (N := N_law_bears) (sc := defScope s_law_bears) (own := [("cell", 6)]) (by decide +kernel)) rfl rfl (fun _ _ _ _ _ _ => (dg_name 6 (pf 6 rfl) sc.nd rfl (.inl rfl))) (fun _ _ _ _ _ _ => dts_nil) (fun _ _ _ _ _ _ => (de_calls rfl rfl takes0 C_law_over_cell hr (by decide) rfl (dg_d (de_var 0 rfl (.inr (.inl rfl))) (dg_d (de_var 1 rfl (.inr (.inl rfl))) (dg_d (de_var 6 rfl (.inl rfl)) dg_nil))))))) da_nil))) (de_ix (ix_X hv) opd_ixX (de_ix (ix_X hv) opd_ixX (de_var 0 rfl (.inr (.inl rfl))) de_int) (de_var 5 rfl (.inl rfl))) (nomark _)) (dss_one (ds_ret de_bl)) dss_nil))))
      (dss_one (ds_ret de_bl))))))
theorem sc_law : FnScope N_law P_law (defScope s_law) := ⟨rfl, rfl, rfl, by decide +kernel, rfl, by decide +kernel, by decide +kernel⟩
theorem bi_law : BindsF "law" s_law P_law := fun _ _ _ _ _ _ us hl => match us, hl with | [_], _ => rfl
theorem ok_law (T : Txt K mg) {fA : Addr} {fd : FuncData} (Dn : DefIn K mg "law" s_law fA fd) (C_bears : DFn P w K mg base "bears" 6 [false] .o Mi.bears) (C_law_yard : DFn P w K mg base "_law_yard" 5 [false] .f Mi.law_yard2) (C_law_even : DFn P w K mg base "_law_even" 4 [false, false] .f Mi.law_even) (C_law_names : DFn P w K mg base "_law_names" 1 [] .f Mi.law_names) (C_law_bears : DFn P w K mg base "_law_bears" 2 [false, false] .f Mi.law_bears) : FnOk P w K mg base (L2.CX P w) 7 fA fd P_law (spD ⟨K, mg, w⟩ none [false] .f Mi.law) :=
  fn_ok (k := 6) Dn.2 sc_law rfl fun cdv A outer s H E H0 pr pf hr tk => by
    have sc := sc_law; have hu := hr.units; have hv := room_hv hr
    exact (dss_cons (ds_set 1 (pf 1 rfl) sc.nd rfl (.inr rfl) (de_calls rfl rfl tk C_law_even hr (by decide) rfl (dg_d (de_var 0 rfl (.inl rfl)) (dg_d de_int dg_nil))))
      (dss_cons (ds_set 2 (pf 2 rfl) sc.nd rfl (.inl rfl) (de_calls rfl rfl tk C_law_yard hr (by decide) rfl (dg_d (de_var 1 rfl (.inr (.inl rfl))) dg_nil)))
      (dss_cons (ds_setLc 3 (pf 3 rfl) rfl sc.nd rfl rfl (sw_true rfl rfl rfl (by decide +kernel)) (by exact (di_gen rfl (de_calls0 rfl rfl tk C_law_names hr (by decide) rfl))) (blkOk_by (N := N_law) (sc := defScope s_law) (own := [("name", 6)]) (by decide +kernel)) rfl rfl (fun _ _ _ _ _ _ => (dg_name 6 (pf 6 rfl) sc.nd rfl (.inl rfl))) (fun _ _ _ _ _ _ => (dts_one (dt_val (de_calls rfl rfl takes0 C_law_bears hr (by decide) rfl (dg_d (de_var 1 rfl (.inr (.inl rfl))) (dg_d (de_var 6 rfl (.inl rfl)) dg_nil)))))) (fun _ _ _ _ _ _ => (de_var 6 rfl (.inl rfl))))
      (dss_cons (ds_for (passes_of rfl) rfl (di_range1 rfl T.n_range (da_cons de_int da_nil)) (dg_name 4 (pf 4 rfl) sc.nd rfl (.inl rfl)) (dss_cons (ds_setX 5 (pf 5 rfl) sc.nd rfl (.inl rfl) (dx_calls rfl rfl tk C_bears hr (by decide) rfl (dg_d (de_var 2 rfl (.inl rfl)) dg_nil)))
      (dss_cons (ds_if (dt_w (dw_or (dt_not (dt_lend fun _ => (dt_val (de_isi (Ts := "list") rfl rfl rfl T.n_isinstance rfl T.n_list (by decide +kernel) (de_var 5 rfl (.inl rfl)))))) (dw_or (dt_lend fun _ => (dt_cmp (op_neD hu) opd_ne (de_var 5 rfl (.inl rfl)) (de_var 3 rfl (.inl rfl)) (nomark _))) (dw_or1 (dt_cmp (op_neD hu) opd_ne (de_ixO 5 ix_seq opo_ix de_int rfl (.inl rfl)) de_str (nomark _)))))) (dss_one (ds_ret de_bl)) dss_nil)
      (dss_cons (ds_if (dt_not (dt_lend fun _ => (dt_val (de_callB (cr_all rfl) cd_all rfl T.n_all (by decide +kernel) (da_cons (de_fz (do_lc rfl sc.nd (di_gen rfl (de_var 5 rfl (.inl rfl))) (blkOk_by (N := N_law) (sc := defScope s_law) (own := [("name", 6)]) (by decide +kernel)) rfl rfl (fun _ _ _ _ _ _ => (dg_name 6 (fun _ hp => absurd hp List.not_mem_nil) sc.nd rfl (.inl rfl))) (fun _ _ _ _ _ _ => dts_nil) (fun _ _ _ _ _ _ => (de_isi (Ts := "str") rfl rfl rfl T.n_isinstance rfl T.n_str (by decide +kernel) (de_var 6 rfl (.inl rfl)))))) da_nil))))) (dss_one (ds_ret de_bl)) dss_nil)
      (dss_one (ds_expr (de_bmO (id := "append") (T := "list") 5 PySem.F.slot_list_append PySem.F.type_list_append mt_append mo_append (da_cons de_str da_nil) rfl (.inl rfl))))))))
      (dss_one (ds_ret (de_cmp (op_eqDT rfl hv) opd_eqDT (de_tup (da_cons (de_fld rfl T.k_Yard (by decide) (de_var 2 rfl (.inl rfl))) (da_cons (de_fld rfl T.k_Yard (by decide) (de_var 2 rfl (.inl rfl))) (da_cons (de_fld rfl T.k_Yard (by decide) (de_var 2 rfl (.inl rfl))) (da_cons (de_fld rfl T.k_Yard (by decide) (de_var 2 rfl (.inl rfl))) (da_cons (de_fld rfl T.k_Yard (by decide) (de_var 2 rfl (.inl rfl))) (da_cons (de_fld rfl T.k_Yard (by decide) (de_var 2 rfl (.inl rfl))) da_nil))))))) (de_var 1 rfl (.inr (.inl rfl))) (nomark _))))))))
theorem law_ok {h : Heap} (X : K.In h) (G : h.Ns mainGlobals mg) (c : He.SaysD fa fn K) (xt : (exsB K tab && (slotsB K && listsB K lts)) = true) : ∃ fd, DefIn K mg "law" s_law (He.ga K "law") fd ∧ slotsB K = true ∧ ∀ base : Heap, FnOk P w K mg base (L2.CX P w) 7 (He.ga K "law") fd P_law (spD ⟨K, mg, w⟩ none [false] .f Mi.law) := by
  rw [Bool.and_eq_true] at xt
  have xl := xt.2
  rw [Bool.and_eq_true] at xl
  have T : Txt K mg := ⟨exsB_ok X G xt.1, He.free_ok X G (c.fact 32 (f := .free "abs") rfl), He.free_ok X G (c.fact 33 (f := .free "all") rfl), He.free_ok X G (c.fact 34 (f := .free "int") rfl), He.free_ok X G (c.fact 35 (f := .free "isinstance") rfl), He.free_ok X G (c.fact 36 (f := .free "len") rfl), He.free_ok X G (c.fact 37 (f := .free "list") rfl), He.free_ok X G (c.fact 38 (f := .free "max") rfl), He.free_ok X G (c.fact 39 (f := .free "min") rfl), He.free_ok X G (c.fact 40 (f := .free "range") rfl), He.free_ok X G (c.fact 41 (f := .free "set") rfl), He.free_ok X G (c.fact 42 (f := .free "sorted") rfl), He.free_ok X G (c.fact 43 (f := .free "str") rfl), He.free_ok X G (c.fact 44 (f := .free "tuple") rfl), He.str_ok X G (c.fact 45 (f := .str "LETTERS" "abcdefghijklmnopqrstuvwxyz") rfl), He.int_ok X G (c.fact 46 (f := .int "MOST_KINDS" 6) rfl), He.int_ok X G (c.fact 47 (f := .int "MOST_SIDE" 5) rfl), He.int_ok X G (c.fact 48 (f := .int "MOST_STEP" 4) rfl), listB_ok X G (List.all_eq_true.mp xl.2 _ (by simp [lts])) (c.fact 58 rfl), cls_in X G c 49 50 rfl rfl (by simp only [List.mem_cons, List.not_mem_nil, or_false]; rintro f (rfl | rfl | rfl | rfl | rfl | rfl) <;> first | exact ⟨52, rfl⟩ | exact ⟨53, rfl⟩ | exact ⟨54, rfl⟩ | exact ⟨55, rfl⟩ | exact ⟨56, rfl⟩ | exact ⟨57, rfl⟩)⟩
  obtain ⟨fd_is_exchanged, D_is_exchanged⟩ := def_in (x := "is_exchanged") (st := s_is_exchanged) X G c 0 0 rfl rfl
  obtain ⟨fd_quarters, D_quarters⟩ := def_in (x := "quarters") (st := s_quarters) X G c 1 1 rfl rfl
  obtain ⟨fd_cell_over, D_cell_over⟩ := def_in (x := "cell_over") (st := s_cell_over) X G c 2 2 rfl rfl
  obtain ⟨fd_step_over, D_step_over⟩ := def_in (x := "step_over") (st := s_step_over) X G c 3 3 rfl rfl
  obtain ⟨fd_cells_over, D_cells_over⟩ := def_in (x := "cells_over") (st := s_cells_over) X G c 4 4 rfl rfl
  obtain ⟨fd_steps_stay, D_steps_stay⟩ := def_in (x := "steps_stay") (st := s_steps_stay) X G c 5 5 rfl rfl
  obtain ⟨fd_goals_stay, D_goals_stay⟩ := def_in (x := "goals_stay") (st := s_goals_stay) X G c 6 6 rfl rfl
  obtain ⟨fd_is_borne, D_is_borne⟩ := def_in (x := "is_borne") (st := s_is_borne) X G c 7 7 rfl rfl
  obtain ⟨fd_bears, D_bears⟩ := def_in (x := "bears") (st := s_bears) X G c 8 8 rfl rfl
  obtain ⟨fd_rising, D_rising⟩ := def_in (x := "rising") (st := s_rising) X G c 9 9 rfl rfl
  obtain ⟨fd_is_step, D_is_step⟩ := def_in (x := "is_step") (st := s_is_step) X G c 10 10 rfl rfl
  obtain ⟨fd_is_kind, D_is_kind⟩ := def_in (x := "is_kind") (st := s_is_kind) X G c 11 11 rfl rfl
  obtain ⟨fd_law_cell, D_law_cell⟩ := def_in (x := "_law_cell") (st := s_law_cell) X G c 12 12 rfl rfl
  obtain ⟨fd_law_begin, D_law_begin⟩ := def_in (x := "_law_begin") (st := s_law_begin) X G c 13 13 rfl rfl
  obtain ⟨fd_law_take, D_law_take⟩ := def_in (x := "_law_take") (st := s_law_take) X G c 14 14 rfl rfl
  obtain ⟨fd_law_steps, D_law_steps⟩ := def_in (x := "_law_steps") (st := s_law_steps) X G c 15 15 rfl rfl
  obtain ⟨fd_law_kind, D_law_kind⟩ := def_in (x := "_law_kind") (st := s_law_kind) X G c 16 16 rfl rfl
  obtain ⟨fd_law_some_cells, D_law_some_cells⟩ := def_in (x := "_law_some_cells") (st := s_law_some_cells) X G c 17 17 rfl rfl
  obtain ⟨fd_law_parts, D_law_parts⟩ := def_in (x := "_law_parts") (st := s_law_parts) X G c 18 18 rfl rfl
  obtain ⟨fd_law_yard, D_law_yard⟩ := def_in (x := "_law_yard") (st := s_law_yard) X G c 19 19 rfl rfl
  obtain ⟨fd_law_position, D_law_position⟩ := def_in (x := "_law_position") (st := s_law_position) X G c 20 20 rfl rfl
  obtain ⟨fd_law_even, D_law_even⟩ := def_in (x := "_law_even") (st := s_law_even) X G c 21 21 rfl rfl
  obtain ⟨fd_law_names, D_law_names⟩ := def_in (x := "_law_names") (st := s_law_names) X G c 22 22 rfl rfl
  obtain ⟨fd_law_over_cell, D_law_over_cell⟩ := def_in (x := "_law_over_cell") (st := s_law_over_cell) X G c 23 23 rfl rfl
  obtain ⟨fd_law_over_step, D_law_over_step⟩ := def_in (x := "_law_over_step") (st := s_law_over_step) X G c 24 24 rfl rfl
  obtain ⟨fd_law_bears, D_law_bears⟩ := def_in (x := "_law_bears") (st := s_law_bears) X G c 25 25 rfl rfl
  obtain ⟨fd_law_over, D_law_over⟩ := def_in (x := "_law_over") (st := s_law_over) X G c 26 26 rfl rfl
  obtain ⟨fd_law, D_law⟩ := def_in (x := "law") (st := s_law) X G c 27 27 rfl rfl
  obtain ⟨fA_Yard_ini, fd_Yard_ini, D_Yard_ini⟩ := init_in (x := "Yard") (q := "Yard.__init__") (st := s_Yard_ini) X G c 28 49 51 rfl rfl rfl
  obtain ⟨fA_Yard_on_board, fd_Yard_on_board, D_Yard_on_board⟩ := meth_in (x := "Yard") (nm := "on_board") (q := "Yard.on_board") (st := s_Yard_on_board) X G c 29 49 50 29 rfl rfl rfl rfl
  obtain ⟨fA_Yard_is_free, fd_Yard_is_free, D_Yard_is_free⟩ := meth_in (x := "Yard") (nm := "is_free") (q := "Yard.is_free") (st := s_Yard_is_free) X G c 30 49 50 30 rfl rfl rfl rfl
  obtain ⟨fA_Yard_cells, fd_Yard_cells, D_Yard_cells⟩ := meth_in (x := "Yard") (nm := "cells") (q := "Yard.cells") (st := s_Yard_cells) X G c 31 49 50 31 rfl rfl rfl rfl
  refine ⟨fd_law, D_law, xl.1, fun base => ?_⟩
  have C_law_cell := ok_law_cell (P := P) (w := w) (base := base) T D_law_cell
  have C_law_begin := ok_law_begin (P := P) (w := w) (base := base) T D_law_begin C_law_cell
  have C_law_steps := ok_law_steps (P := P) (w := w) (base := base) T D_law_steps
  have C_law_take := ok_law_take (P := P) (w := w) (base := base) T D_law_take
  have C_law_kind := ok_law_kind (P := P) (w := w) (base := base) T D_law_kind C_law_take C_law_steps
  have C_law_some_cells := ok_law_some_cells (P := P) (w := w) (base := base) T D_law_some_cells C_law_take
  have C_law_parts := ok_law_parts (P := P) (w := w) (base := base) T D_law_parts C_law_begin C_law_take C_law_kind C_law_some_cells
  have C_law_even := ok_law_even (P := P) (w := w) (base := base) T D_law_even C_law_begin C_law_take C_law_parts
  have C_rising := ok_rising (P := P) (w := w) (base := base) T D_rising
  have C_Yard_on_board := ok_Yard_on_board (P := P) (w := w) (base := base) T D_Yard_on_board
  have C_is_step := ok_is_step (P := P) (w := w) (base := base) T D_is_step
  have C_is_kind := ok_is_kind (P := P) (w := w) (base := base) T D_is_kind C_rising C_is_step
  have C_Yard_is_free := ok_Yard_is_free (P := P) (w := w) (base := base) T D_Yard_is_free C_Yard_on_board
  have C_Yard_ini := ok_Yard_ini (P := P) (w := w) (base := base) T D_Yard_ini C_rising C_is_kind C_Yard_on_board C_Yard_is_free
  have C_law_yard := ok_law_yard (P := P) (w := w) (base := base) T D_law_yard C_Yard_ini
  have C_quarters := ok_quarters (P := P) (w := w) (base := base) T D_quarters
  have C_cell_over := ok_cell_over (P := P) (w := w) (base := base) T D_cell_over C_quarters
  have C_cells_over := ok_cells_over (P := P) (w := w) (base := base) T D_cells_over C_cell_over
  have C_is_exchanged := ok_is_exchanged (P := P) (w := w) (base := base) T D_is_exchanged
  have C_step_over := ok_step_over (P := P) (w := w) (base := base) T D_step_over C_is_exchanged C_quarters
  have C_steps_stay := ok_steps_stay (P := P) (w := w) (base := base) T D_steps_stay C_step_over
  have C_goals_stay := ok_goals_stay (P := P) (w := w) (base := base) T D_goals_stay C_is_exchanged C_cells_over
  have C_is_borne := ok_is_borne (P := P) (w := w) (base := base) T D_is_borne C_quarters C_cells_over C_steps_stay C_goals_stay
  have C_bears := ok_bears (P := P) (w := w) (base := base) T D_bears C_is_borne
  have C_law_names := ok_law_names (P := P) (w := w) (base := base) T D_law_names
  have C_law_over_cell := ok_law_over_cell (P := P) (w := w) (base := base) T D_law_over_cell
  have C_law_over_step := ok_law_over_step (P := P) (w := w) (base := base) T D_law_over_step
  have C_law_bears := ok_law_bears (P := P) (w := w) (base := base) T D_law_bears C_law_over_cell C_law_over_step
  exact ok_law T D_law C_bears C_law_yard C_law_even C_law_names C_law_bears
end
end DL
section
namespace DL
open PySem PySem.Spec L2
open PyProof.Rows hiding St

/-! ### the monad run at a state -/
section
variable {α β : Type} {ρ : DL.Env}
@[simp] theorem pureM_ap (x : α) : pureM x ρ = .ok x ρ := rfl
@[simp] theorem bindM_ap (a : M α) (k : α → M β) : bindM a k ρ = (match a ρ with | .ok x ρ' => k x ρ' | .exc c ρ' => .exc c ρ' | .stuck => .stuck) := rfl
@[simp] theorem stuckM_ap : (stuckM : M α) ρ = .stuck := rfl
@[simp] theorem liftM_some (x : α) : liftM (some x) ρ = .ok x ρ := rfl
@[simp] theorem liftM_none : liftM (none : Option α) ρ = .stuck := rfl
@[simp] theorem getM_ap (i : Nat) : getM i ρ = (match ρ[i]? with | some (.d x) => .ok x ρ | _ => .stuck) := rfl
@[simp] theorem rdM_ap (i : Nat) : rdM i ρ = (match ρ[i]? with | some (.d x) => .ok x ρ | some (.cell c) => .ok (ocD c) (ρ.set i (.d (ocD c))) | _ => .stuck) := rfl
@[simp] theorem ocD_l (xs : List D) : ocD (.l xs) = .lst xs := rfl
@[simp] theorem ocD_k (ks vs : List D) : ocD (.k ks vs) = .dic ks vs := rfl
@[simp] theorem getO_ap (i : Nat) : getO i ρ = (match ρ[i]? with | some (.cell (.l xs)) => .ok xs ρ | _ => .stuck) := rfl
@[simp] theorem putO_ap (i : Nat) (xs : List D) : putO i xs ρ = .ok () (ρ.set i (.own xs)) := rfl
@[simp] theorem haveS_ap (i : Nat) : haveS i ρ = (match ρ[i]? with | some (.cell _) => .ok () ρ | some (.exn _) => .ok () ρ | _ => .stuck) := rfl
@[simp] theorem op2_ap (g : D → D → Option D) (fa fb : M D) : op2 g fa fb ρ = (match fa ρ with | .ok x ρ1 => (match fb ρ1 with | .ok y ρ2 => liftM (g x y) ρ2 | .exc c ρ' => .exc c ρ' | .stuck => .stuck) | .exc c ρ' => .exc c ρ' | .stuck => .stuck) := by
  unfold op2 bindM
  cases fa ρ with
  | ok x r1 =>
    dsimp only
    cases fb r1 <;> rfl
  | _ => rfl
@[simp] theorem opO_ap (i : Nat) (g : List D → D → Option D) (fb : M D) : opO i g fb ρ = (match fb ρ with | .ok y ρ1 => (match getO i ρ1 with | .ok xs ρ2 => liftM (g xs y) ρ2 | .exc c ρ' => .exc c ρ' | .stuck => .stuck) | .exc c ρ' => .exc c ρ' | .stuck => .stuck) := by
  unfold opO bindM
  cases fb ρ with
  | ok x r1 =>
    dsimp only
    cases getO i r1 <;> rfl
  | _ => rfl
@[simp] theorem boolM_ap (f : M D) : boolM f ρ = (match f ρ with | .ok (.bl b) ρ' => .ok b ρ' | .ok _ _ => .stuck | .exc c ρ' => .exc c ρ' | .stuck => .stuck) := by
  unfold boolM bindM
  cases e : f ρ with
  | ok d ρ' => cases d <;> rfl
  | _ => rfl
@[simp] theorem andM_ap (f g : M Bool) : andM f g ρ = (match f ρ with | .ok true ρ' => g ρ' | .ok false ρ' => .ok false ρ' | .exc c ρ' => .exc c ρ' | .stuck => .stuck) := by
  unfold andM bindM
  cases e : f ρ with
  | ok d ρ' => cases d <;> rfl
  | _ => rfl
@[simp] theorem orM_ap (f g : M Bool) : orM f g ρ = (match f ρ with | .ok true ρ' => .ok true ρ' | .ok false ρ' => g ρ' | .exc c ρ' => .exc c ρ' | .stuck => .stuck) := by
  unfold orM bindM
  cases e : f ρ with
  | ok d ρ' => cases d <;> rfl
  | _ => rfl
@[simp] theorem notM_ap (f : M Bool) : notM f ρ = (match f ρ with | .ok b ρ' => .ok (!b) ρ' | .exc c ρ' => .exc c ρ' | .stuck => .stuck) := by
  unfold notM bindM
  cases f ρ <;> rfl
@[simp] theorem andV_ap (f g : M D) : andV f g ρ = (match f ρ with | .ok (.bl true) ρ' => g ρ' | .ok (.bl false) ρ' => .ok (.bl false) ρ' | .ok _ _ => .stuck | .exc c ρ' => .exc c ρ' | .stuck => .stuck) := by
  unfold andV bindM
  cases e : f ρ with
  | ok d ρ' => cases d with
    | bl b => cases b <;> rfl
    | _ => rfl
  | _ => rfl
@[simp] theorem orV_ap (f g : M D) : orV f g ρ = (match f ρ with | .ok (.bl true) ρ' => .ok (.bl true) ρ' | .ok (.bl false) ρ' => g ρ' | .ok _ _ => .stuck | .exc c ρ' => .exc c ρ' | .stuck => .stuck) := by
  unfold orV bindM
  cases e : f ρ with
  | ok d ρ' => cases d with
    | bl b => cases b <;> rfl
    | _ => rfl
  | _ => rfl
@[simp] theorem notV_ap (f : M D) : notV f ρ = (match f ρ with | .ok (.bl b) ρ' => .ok (.bl (!b)) ρ' | .ok _ _ => .stuck | .exc c ρ' => .exc c ρ' | .stuck => .stuck) := by
  unfold notV bindM
  cases e : f ρ with
  | ok d ρ' => cases d <;> rfl
  | _ => rfl
@[simp] theorem isN_ap (f : M D) : isN f ρ = (match f ρ with | .ok d ρ' => .ok (.bl (isNb d)) ρ' | .exc c ρ' => .exc c ρ' | .stuck => .stuck) := by
  unfold isN bindM
  cases f ρ <;> rfl
@[simp] theorem notN_ap (f : M D) : notN f ρ = (match f ρ with | .ok d ρ' => .ok (.bl (!isNb d)) ρ' | .exc c ρ' => .exc c ρ' | .stuck => .stuck) := by
  unfold notN bindM
  cases f ρ <;> rfl
@[simp] theorem negM_ap (f : M D) : negM f ρ = (match f ρ with | .ok (.int i) ρ' => .ok (.int (-i)) ρ' | .ok _ _ => .stuck | .exc c ρ' => .exc c ρ' | .stuck => .stuck) := by
  unfold negM bindM
  cases e : f ρ with
  | ok d ρ' => cases d <;> rfl
  | _ => rfl
@[simp] theorem iteM_ap (c : M Bool) (f g : M α) : iteM c f g ρ = (match c ρ with | .ok true ρ' => f ρ' | .ok false ρ' => g ρ' | .exc c ρ' => .exc c ρ' | .stuck => .stuck) := by
  unfold iteM bindM
  cases e : c ρ with
  | ok d ρ' => cases d <;> rfl
  | _ => rfl
@[simp] theorem consM_ap (f : M D) (g : M (List D)) : consM f g ρ = (match f ρ with | .ok x ρ1 => (match g ρ1 with | .ok xs ρ2 => .ok (x :: xs) ρ2 | .exc c ρ' => .exc c ρ' | .stuck => .stuck) | .exc c ρ' => .exc c ρ' | .stuck => .stuck) := by
  unfold consM bindM
  cases f ρ with
  | ok x r1 =>
    dsimp only
    cases g r1 <;> rfl
  | _ => rfl
@[simp] theorem consA_ap (f : M D) (g : M (List Ag)) : consA f g ρ = (match f ρ with | .ok x ρ1 => (match g ρ1 with | .ok xs ρ2 => .ok (.d x :: xs) ρ2 | .exc c ρ' => .exc c ρ' | .stuck => .stuck) | .exc c ρ' => .exc c ρ' | .stuck => .stuck) := by
  unfold consA bindM
  cases f ρ with
  | ok x r1 =>
    dsimp only
    cases g r1 <;> rfl
  | _ => rfl
@[simp] theorem consS_ap (i : Nat) (g : M (List Ag)) : consS i g ρ = (match g ρ with | .ok xs ρ2 => .ok (.sl i :: xs) ρ2 | .exc c ρ' => .exc c ρ' | .stuck => .stuck) := by
  unfold consS bindM
  cases g ρ <;> rfl
@[simp] theorem lstM_ap (f : M (List D)) : lstM f ρ = (match f ρ with | .ok xs ρ2 => .ok (.lst xs) ρ2 | .exc c ρ' => .exc c ρ' | .stuck => .stuck) := by
  unfold lstM bindM
  cases f ρ <;> rfl
@[simp] theorem sizeM_ap (f : M (List D)) : sizeM f ρ = (match f ρ with | .ok xs ρ2 => if xs.length ≤ sizeLine then .ok xs ρ2 else .stuck | .exc c ρ' => .exc c ρ' | .stuck => .stuck) := by
  unfold sizeM bindM
  cases e : f ρ with
  | ok d ρ' =>
    show (if d.length ≤ sizeLine then pureM d else stuckM) ρ' = if d.length ≤ sizeLine then .ok d ρ' else .stuck
    split <;> rfl
  | _ => rfl
@[simp] theorem tupM_ap (f : M (List D)) : tupM f ρ = (match f ρ with | .ok xs ρ2 => if xs.length ≤ sizeLine then .ok (.tup xs) ρ2 else .stuck | .exc c ρ' => .exc c ρ' | .stuck => .stuck) := by
  unfold tupM bindM
  rw [sizeM_ap]
  cases e : f ρ with
  | ok d ρ' =>
    dsimp only
    by_cases h : d.length ≤ sizeLine
    · simp only [h, if_true]; rfl
    · simp only [h, if_false]
  | _ => rfl
@[simp] theorem callD_ap (g : List D → Option D) (f : M (List D)) : callD g f ρ = (match f ρ with | .ok xs ρ2 => liftM (g xs) ρ2 | .exc c ρ' => .exc c ρ' | .stuck => .stuck) := by
  unfold callD bindM
  cases f ρ <;> rfl
@[simp] theorem callO_ap (g : List D → Option (List D)) (f : M (List D)) : callO g f ρ = (match f ρ with | .ok xs ρ2 => liftM (g xs) ρ2 | .exc c ρ' => .exc c ρ' | .stuck => .stuck) := by
  unfold callO bindM
  cases f ρ <;> rfl
@[simp] theorem itemsM_ap (f : M D) : itemsM f ρ = (match f ρ with | .ok d ρ2 => liftM (itemsOf d) ρ2 | .exc c ρ' => .exc c ρ' | .stuck => .stuck) := by
  unfold itemsM bindM
  cases f ρ <;> rfl
@[simp] theorem rg1M_ap (f : M (List D)) : rg1M f ρ = (match f ρ with | .ok d ρ2 => liftM (rg1 d) ρ2 | .exc c ρ' => .exc c ρ' | .stuck => .stuck) := by
  unfold rg1M bindM
  cases f ρ <;> rfl
@[simp] theorem rg2M_ap (f : M (List D)) : rg2M f ρ = (match f ρ with | .ok d ρ2 => liftM (rg2 d) ρ2 | .exc c ρ' => .exc c ρ' | .stuck => .stuck) := by
  unfold rg2M bindM
  cases f ρ <;> rfl
@[simp] theorem isiM_ap (T : String) (f : M D) : isiM T f ρ = (match f ρ with | .ok d ρ2 => liftM ((isTy T d).map D.bl) ρ2 | .exc c ρ' => .exc c ρ' | .stuck => .stuck) := by
  unfold isiM bindM
  cases f ρ <;> rfl
@[simp] theorem lenO_ap (i : Nat) : lenO i ρ = (match ρ[i]? with | some (.cell (.l xs)) => .ok (.int xs.length) ρ | _ => .stuck) := by
  unfold lenO
  rw [bindM_ap, getO_ap]
  cases e : ρ[i]? with
  | none => rfl
  | some s =>
    match s with
    | .cell (.l _) => rfl
    | .cell (.k _ _) => rfl
    | .no => rfl
    | .d _ => rfl
    | .exn _ => rfl
@[simp] theorem mtV_ap (T : String) (g : D → List D → Option D) (fo : M D) (fa : M (List D)) : mtV T g fo fa ρ = (match fo ρ with | .ok d ρ1 => if tyD T d = true then (match fa ρ1 with | .ok xs ρ2 => liftM (g d xs) ρ2 | .exc c ρ' => .exc c ρ' | .stuck => .stuck) else .stuck | .exc c ρ' => .exc c ρ' | .stuck => .stuck) := by
  unfold mtV tyM bindM
  cases e : fo ρ with
  | ok d ρ1 =>
    dsimp only
    by_cases h : tyD T d = true
    · simp only [h, if_true, pureM_ap]
      cases fa ρ1 <;> rfl
    · simp only [h]; rfl
  | _ => rfl
@[simp] theorem mtO_ap (i : Nat) (g : List D → List D → Option (D × List D)) (f : M (List D)) : mtO i g f ρ = (match getO i ρ with | .ok _ ρ0 => (match f ρ0 with | .ok ds ρ1 => (match getO i ρ1 with | .ok xs ρ2 => (match g xs ds with | some z => .ok z.1 (ρ2.set i (.own z.2)) | none => .stuck) | .exc c ρ' => .exc c ρ' | .stuck => .stuck) | .exc c ρ' => .exc c ρ' | .stuck => .stuck) | .exc c ρ' => .exc c ρ' | .stuck => .stuck) := by
  unfold mtO
  simp only [bindM_ap]
  cases e : getO i ρ with
  | ok x ρ0 =>
    dsimp only
    cases e2 : f ρ0 with
    | ok ds ρ1 =>
      dsimp only
      cases e3 : getO i ρ1 with
      | ok xs ρ2 =>
        dsimp only
        cases g xs ds <;> rfl
      | _ => rfl
    | _ => rfl
  | _ => rfl
/-! statements -/
@[simp] theorem seqM_ap (a b : MS) : seqM a b ρ = (match a ρ with | .ok .nx ρ' => b ρ' | r => r) := rfl
@[simp] theorem skipM_ap : skipM ρ = .ok .nx ρ := rfl
@[simp] theorem setM_ap (i : Nat) (f : M D) : setM i f ρ = (match f ρ with | .ok d ρ' => .ok .nx (ρ'.set i (.d d)) | .exc c ρ' => .exc c ρ' | .stuck => .stuck) := by
  unfold setM bindM
  cases f ρ <;> rfl
@[simp] theorem setOM_ap (i : Nat) (f : M (List D)) : setOM i f ρ = (match f ρ with | .ok d ρ' => .ok .nx (ρ'.set i (.own d)) | .exc c ρ' => .exc c ρ' | .stuck => .stuck) := by
  unfold setOM bindM
  cases f ρ <;> rfl
@[simp] theorem dropM_ap (f : M D) : dropM f ρ = (match f ρ with | .ok d ρ' => .ok .nx ρ' | .exc c ρ' => .exc c ρ' | .stuck => .stuck) := by
  unfold dropM bindM
  cases f ρ <;> rfl
@[simp] theorem retM_ap (f : M D) : retM f ρ = (match f ρ with | .ok d ρ' => .ok (.ret d) ρ' | .exc c ρ' => .exc c ρ' | .stuck => .stuck) := by
  unfold retM bindM
  cases f ρ <;> rfl
@[simp] theorem retOM_ap (f : M (List D)) : retOM f ρ = (match f ρ with | .ok d ρ' => .ok (.ret (.lst d)) ρ' | .exc c ρ' => .exc c ρ' | .stuck => .stuck) := by
  unfold retOM bindM
  cases f ρ <;> rfl
@[simp] theorem ifM_ap (c : M Bool) (a b : MS) : ifM c a b ρ = (match c ρ with | .ok true ρ' => a ρ' | .ok false ρ' => b ρ' | .exc c ρ' => .exc c ρ' | .stuck => .stuck) := by
  unfold ifM bindM
  cases e : c ρ with
  | ok d ρ' => cases d <;> rfl
  | _ => rfl
@[simp] theorem raiseM_ap (c : Str) : raiseM c ρ = .exc c ρ := rfl
@[simp] theorem giveM_ap (i : Nat) : giveM i ρ = (match ρ[i]? with | some (.cell (.l xs)) => .ok xs (ρ.set i .no) | _ => .stuck) := by
  unfold giveM
  rw [bindM_ap, getO_ap]
  cases e : ρ[i]? with
  | none => rfl
  | some s =>
    match s with
    | .cell (.l _) => rfl
    | .cell (.k _ _) => rfl
    | .no => rfl
    | .d _ => rfl
    | .exn _ => rfl
@[simp] theorem setIM_ap (i : Nat) (fk fe : M D) : setIM i fk fe ρ = (match fe ρ with | .ok d ρ1 => (match getO i ρ1 with | .ok _ ρ2 => (match fk ρ2 with | .ok z ρ3 => (match getO i ρ3 with | .ok xs ρ4 => (match ixSet xs z d with | some ys => .ok .nx (ρ4.set i (.own ys)) | none => .stuck) | .exc c ρ' => .exc c ρ' | .stuck => .stuck) | .exc c ρ' => .exc c ρ' | .stuck => .stuck) | .exc c ρ' => .exc c ρ' | .stuck => .stuck) | .exc c ρ' => .exc c ρ' | .stuck => .stuck) := by
  unfold setIM
  simp only [bindM_ap]
  cases e : fe ρ with
  | ok d ρ1 =>
    dsimp only
    cases e2 : getO i ρ1 with
    | ok x ρ2 =>
      dsimp only
      cases e3 : fk ρ2 with
      | ok z ρ3 =>
        dsimp only
        cases e4 : getO i ρ3 with
        | ok xs ρ4 =>
          dsimp only
          cases ixSet xs z d <;> rfl
        | _ => rfl
      | _ => rfl
    | _ => rfl
  | _ => rfl
@[simp] theorem forD_ap (it : M (List D)) (tg : TgF) (body : MS) : forD it tg body ρ = (match it ρ with | .ok xs ρ' => forM tg body xs ρ' | .exc c ρ' => .exc c ρ' | .stuck => .stuck) := by
  unfold forD bindM
  cases it ρ <;> rfl
@[simp] theorem asgM_ap (f : M D) (t : TgF) : asgM f t ρ = (match f ρ with | .ok d ρ' => (match t d ρ' with | some ρ2 => .ok .nx ρ2 | none => .stuck) | .exc c ρ' => .exc c ρ' | .stuck => .stuck) := by
  unfold asgM bindM
  cases f ρ <;> rfl
@[simp] theorem tgN_ap (i : Nat) (d : D) : tgN i d ρ = some (ρ.set i (.d d)) := rfl
@[simp] theorem callM_ap (f : Fn) (fa : M (List Ag)) : callM f fa ρ = (match fa ρ with | .ok ags ρ1 => if (slots ags).Nodup then (match f (ags.map (toSl ρ1)) with | .ok d os => .ok d (putBack ags os ρ1) | .exc c os => .exc c (putBack ags os ρ1) | .stuck => .stuck) else .stuck | .exc c ρ' => .exc c ρ' | .stuck => .stuck) := by
  unfold callM bindM
  cases fa ρ <;> rfl
@[simp] theorem callL_ap (f : Fn) (fa : M (List Ag)) : callL f fa ρ = (match callM f fa ρ with | .ok (.lst ds) ρ' => .ok ds ρ' | .ok _ _ => .stuck | .exc c ρ' => .exc c ρ' | .stuck => .stuck) := by
  unfold callL
  rw [bindM_ap]
  cases e : callM f fa ρ with
  | ok d ρ' => cases d <;> rfl
  | _ => rfl
@[simp] theorem mdM_ap (md : List Bool) (fa : M (List Ag)) : mdM md fa ρ = (match fa ρ with | .ok ags ρ1 => if (ags.map (toSl ρ1)).map isOwn = md then .ok ags ρ1 else .stuck | .exc c ρ' => .exc c ρ' | .stuck => .stuck) := by
  unfold mdM bindM
  cases fa ρ <;> rfl
@[simp] theorem exnM_ap (i : Nat) (g : Str → Option Bool) : exnM i g ρ = (match ρ[i]? with | some (.exn c) => (match g c with | some b => .ok (.bl b) ρ | none => .stuck) | _ => .stuck) := rfl
@[simp] theorem tryM_ap (i : Nat) (sub : Str → Option Bool) (body : MS) (suite : Str → MS) : tryM i sub body suite ρ = (match body ρ with
  | .exc c ρ1 => (match sub c with
    | some true => (match suite c (ρ1.set i (.exn c)) with
      | .ok fl ρ2 => if noExn (ρ2.set i .no) = true then .ok fl (ρ2.set i .no) else .stuck
      | _ => .stuck)
    | some false => .exc c ρ1
    | none => .stuck)
  | r => r) := by
  unfold tryM
  cases e : body ρ <;> rfl
theorem compO_ap (it : M (List D)) (tg : TgF) (tt : M Bool) (te : M D) (vs : List Nat) : compO it tg tt te vs ρ = (match it ρ with | .ok xs ρ1 => if plainB vs ρ1 = true then (match compGo tg tt te vs [] xs (wipeE ρ1 vs) with | .ok ys ρ' => .ok ys (restE ρ1 ρ' vs) | _ => .stuck) else .stuck | .exc c ρ' => .exc c ρ' | .stuck => .stuck) := by
  unfold compO bindM
  cases it ρ <;> rfl
end
@[simp] theorem fnM_ap (rm : Bool) (n : Nat) (body : MS) (ρ : DL.Env) : fnM rm n body ρ = (match body (ρ ++ List.replicate (n - ρ.length) .no) with
  | .ok .nx ρ' => if rm = true then .stuck else .ok .non (collect ρ ρ')
  | .ok (.ret d) ρ' => .ok d (collect ρ ρ')
  | .exc c ρ' => .exc c (collect ρ ρ')
  | _ => .stuck) := by
  unfold fnM
  cases e : body (ρ ++ List.replicate (n - ρ.length) .no) with
  | ok fl ρ' => cases fl <;> rfl
  | _ => rfl
@[simp] theorem toSl_d (ρ : DL.Env) (x : D) : toSl ρ (.d x) = .d x := rfl
@[simp] theorem toSl_s (ρ : DL.Env) (i : Nat) : toSl ρ (.sl i) = ρ.getD i .no := rfl
@[simp] theorem slots_nil : slots [] = [] := rfl
@[simp] theorem slots_d (x : D) (r : List Ag) : slots (.d x :: r) = slots r := rfl
@[simp] theorem slots_s (i : Nat) (r : List Ag) : slots (.sl i :: r) = i :: slots r := rfl
@[simp] theorem isOwn_d (x : D) : isOwn (.d x) = false := rfl
@[simp] theorem isOwn_o (x : OC) : isOwn (.cell x) = true := rfl
@[simp] theorem isOwn_e (c : Str) : isOwn (.exn c) = false := rfl
@[simp] theorem putBack_nil (os : List OC) (ρ : DL.Env) : putBack [] os ρ = ρ := rfl
@[simp] theorem putBack_d (x : D) (r : List Ag) (os : List OC) (ρ : DL.Env) : putBack (.d x :: r) os ρ = putBack r os ρ := rfl
@[simp] theorem collect_nil (b : DL.Env) : collect [] b = [] := by cases b <;> rfl
@[simp] theorem collect_d (x : D) (a : DL.Env) (s : Sl) (b : DL.Env) : collect (.d x :: a) (s :: b) = collect a b := by cases s <;> rfl
@[simp] theorem collect_o (x : OC) (a : DL.Env) (y : OC) (b : DL.Env) : collect (.cell x :: a) (.cell y :: b) = y :: collect a b := rfl
@[simp] theorem collect_e (c : Str) (a : DL.Env) (s : Sl) (b : DL.Env) : collect (.exn c :: a) (s :: b) = collect a b := by cases s <;> rfl
/-! ### values -/
@[simp] theorem le_size (n : Nat) (h : n ≤ 1000) : n ≤ sizeLine := by rw [sizeLine_eq]; omega
@[simp] theorem okD_non : okD .non = true := by decide
@[simp] theorem okD_bl (b : Bool) : okD (.bl b) = true := by cases b <;> decide
@[simp] theorem okD_int (i : Int) : okD (.int i) = true := by simp [okD, toPy, SeqAt.shaped, PyData.canLay0, PyData.depth]
@[simp] theorem eqv_int (i j : Int) : eqvD (.int i) (.int j) = decide (i = j) := by rw [Bool.eq_iff_iff]; simp [eqvD, toPy, PyData.eqv]
@[simp] theorem eqv_bl (i j : Bool) : eqvD (.bl i) (.bl j) = decide (i = j) := by rw [Bool.eq_iff_iff]; simp [eqvD, toPy, PyData.eqv]
@[simp] theorem eqv_str (i j : Str) : eqvD (.str i) (.str j) = decide (i = j) := by rw [Bool.eq_iff_iff]; simp [eqvD, toPy, PyData.eqv]
theorem eqD_ok {a b : D} (ha : okD a = true) (hb : okD b = true) : eqD a b = some (.bl (eqvD a b)) := by simp [eqD, ha, hb]
theorem neD_ok {a b : D} (ha : okD a = true) (hb : okD b = true) : neD a b = some (.bl (!eqvD a b)) := by simp [neD, ha, hb]
@[simp] theorem eqD_int (i j : Int) : eqD (.int i) (.int j) = some (.bl (decide (i = j))) := by simp [eqD]
@[simp] theorem neD_int (i j : Int) : neD (.int i) (.int j) = some (.bl (!decide (i = j))) := by simp [neD]
@[simp] theorem intD_int (f : Int → Int → Option D) (i j : Int) : intD f (.int i) (.int j) = f i j := rfl
@[simp] theorem subD_int (i j : Int) : subD (.int i) (.int j) = some (.int (i - j)) := rfl
@[simp] theorem addD_int (i j : Int) : addD (.int i) (.int j) = some (.int (i + j)) := rfl
@[simp] theorem ltD_int (i j : Int) : ltD (.int i) (.int j) = some (.bl (decide (i < j))) := rfl
@[simp] theorem leD_int (i j : Int) : leD (.int i) (.int j) = some (.bl (decide (i ≤ j))) := rfl
@[simp] theorem gtD_int (i j : Int) : gtD (.int i) (.int j) = some (.bl (decide (j < i))) := rfl
@[simp] theorem geD_int (i j : Int) : geD (.int i) (.int j) = some (.bl (decide (j ≤ i))) := rfl
@[simp] theorem modD_int (i j : Int) (h : 0 < j) : modD (.int i) (.int j) = some (.int (i % j)) := by simp [modD, h]
@[simp] theorem divD_int (i j : Int) (h : 0 < j) (h2 : j < 1073741824) : divD (.int i) (.int j) = some (.int (i / j)) := by simp [divD, CDiv, h, h2]
theorem mulD_l (i j : Int) (h : -(2 ^ 64) < i) (h2 : i < 2 ^ 64) : mulD (.int i) (.int j) = some (.int (i * j)) := by
  have c : CMul i j := .inl ⟨h, h2⟩
  simp [mulD, c]
end DL
namespace DL
open PySem PySem.Spec L2
open PyProof.Rows hiding St
/-! ### comprehensions of pure items -/
@[simp] theorem plain_no : plain .no = true := rfl
@[simp] theorem plain_d (x : D) : plain (.d x) = true := rfl
/-! ### what == asks of data: signs, depth -/
def layD (d : D) : Bool := (toPy d).canLay0
def dpD (d : D) : Nat := (toPy d).depth
theorem okD_of {d : D} (h : layD d = true) (h2 : dpD d ≤ 64) : okD d = true := by
  unfold okD SeqAt.shaped
  rw [Bool.and_eq_true]
  exact ⟨h, decide_eq_true h2⟩
theorem layD_of {d : D} (h : okD d = true) : layD d = true := SeqAt.canLay_of_shaped h
theorem canAll : ∀ xs : List D, PyData.canLayAll0 (toPyL xs) = xs.all layD
  | [] => rfl
  | x :: xs => by
    show ((toPy x).canLay0 && PyData.canLayAll0 (toPyL xs)) = _
    rw [canAll xs]; rfl
theorem layD_tup (xs : List D) : layD (.tup xs) = xs.all layD := canAll xs
theorem layD_lst (xs : List D) : layD (.lst xs) = xs.all layD := canAll xs
theorem dpL_le {xs : List D} {n : Nat} (h : ∀ x ∈ xs, dpD x ≤ n) : PyData.depthAll (toPyL xs) ≤ n := by
  induction xs with
  | nil => simp [toPyL, PyData.depthAll]
  | cons x xs ih =>
    have h1 := h x List.mem_cons_self
    have h2 := ih fun y hy => h y (List.mem_cons_of_mem _ hy)
    simp only [toPyL, PyData.depthAll]
    unfold dpD at h1
    omega
theorem dpD_tup {xs : List D} {n : Nat} (h : ∀ x ∈ xs, dpD x ≤ n) : dpD (.tup xs) ≤ n + 1 := by
  have := dpL_le h
  unfold dpD
  simp only [toPy, PyData.depth]
  omega
theorem dpD_lst {xs : List D} {n : Nat} (h : ∀ x ∈ xs, dpD x ≤ n) : dpD (.lst xs) ≤ n + 1 := by
  have := dpL_le h
  unfold dpD
  simp only [toPy, PyData.depth]
  omega
@[simp] theorem layD_int (i : Int) : layD (.int i) = true := by simp [layD, toPy, PyData.canLay0]
@[simp] theorem dpD_int (i : Int) : dpD (.int i) = 0 := by simp [dpD, toPy, PyData.depth]
@[simp] theorem dpD_str (i : Str) : dpD (.str i) = 0 := by simp [dpD, toPy, PyData.depth]
@[simp] theorem dpD_bl (i : Bool) : dpD (.bl i) = 0 := by simp [dpD, toPy, PyData.depth]
/-! equality, by parts -/
theorem eqvL : ∀ xs ys : List D, PyData.eqvAll (toPyL xs) (toPyL ys) = (decide (xs.length = ys.length) && (xs.zip ys).all fun p => eqvD p.1 p.2)
  | [], [] => by simp [toPyL, PyData.eqvAll]
  | [], y :: ys => by simp [toPyL, PyData.eqvAll]
  | x :: xs, [] => by simp [toPyL, PyData.eqvAll]
  | x :: xs, y :: ys => by
    simp only [toPyL, PyData.eqvAll, eqvL xs ys, List.zip_cons_cons, List.all_cons, List.length_cons, Nat.add_right_cancel_iff, eqvD]
    cases (toPy x).eqv (toPy y) <;> cases decide (xs.length = ys.length) <;> simp
theorem eqv_lst (xs ys : List D) : eqvD (.lst xs) (.lst ys) = (decide (xs.length = ys.length) && (xs.zip ys).all fun p => eqvD p.1 p.2) := by
  unfold eqvD; simp only [toPy, PyData.eqv]; exact eqvL xs ys
end DL
end
section
namespace DL
open PySem PySem.Spec L2 DLS
open PyProof.Rows hiding St
section
variable {α β : Type} {ρ : DL.Env}
@[simp] theorem itemsGM_ap (f : M D) : itemsGM f ρ = (match f ρ with | .ok d ρ2 => liftM (itemsG d) ρ2 | .exc c ρ' => .exc c ρ' | .stuck => .stuck) := by
  unfold itemsGM bindM
  cases f ρ <;> rfl
theorem fldM_ap (c f : Str) (fo : M D) : fldM c f fo ρ = (match fo ρ with | .ok (.ins c' ns ds) ρ2 => if c' = c then liftM (fldD f ns ds) ρ2 else .stuck | .ok _ _ => .stuck | .exc c ρ' => .exc c ρ' | .stuck => .stuck) := by
  unfold fldM bindM
  cases e : fo ρ with
  | ok d ρ' =>
    cases d with
    | ins c' ns ds =>
      dsimp only
      by_cases h : c' = c
      · simp only [h, if_true]
      · simp only [h, if_false]; rfl
    | _ => rfl
  | _ => rfl
theorem methD_ap (c nm : Str) (md : List Bool) (f : Fn) (fo : M D) (fa : M (List Ag)) : methD c nm md f fo fa ρ = (match fo ρ with | .ok (.ins c' ns ds) ρ2 => if c' = c ∧ nm ∉ ns then callM f (mdM md (bindM fa fun ags => pureM (.d (.ins c' ns ds) :: ags))) ρ2 else .stuck | .ok _ _ => .stuck | .exc c ρ' => .exc c ρ' | .stuck => .stuck) := by
  unfold methD
  rw [bindM_ap]
  cases e : fo ρ with
  | ok d ρ' =>
    cases d with
    | ins c' ns ds =>
      dsimp only
      by_cases h : c' = c ∧ nm ∉ ns
      · simp only [h, not_false_eq_true, and_self, if_true]
      · simp only [h, if_false]; rfl
    | _ => rfl
  | _ => rfl
@[simp] theorem chainM_ap (g g' : D → D → Option D) (fa fb fc : M D) : chainM g g' fa fb fc ρ = (match fa ρ with | .ok x ρ1 => (match fb ρ1 with | .ok y ρ2 => (match g x y with | some (.bl true) => (match fc ρ2 with | .ok z ρ3 => liftM (g' y z) ρ3 | .exc c ρ' => .exc c ρ' | .stuck => .stuck) | some (.bl false) => .ok (.bl false) ρ2 | _ => .stuck) | .exc c ρ' => .exc c ρ' | .stuck => .stuck) | .exc c ρ' => .exc c ρ' | .stuck => .stuck) := by
  unfold chainM
  rw [bindM_ap]
  cases fa ρ with
  | ok x ρ1 =>
    dsimp only
    rw [bindM_ap]
    cases fb ρ1 with
    | ok y ρ2 =>
      dsimp only
      rw [bindM_ap]
      cases g x y with
      | none => rfl
      | some d =>
        cases d with
        | bl b =>
          cases b with
          | true =>
            dsimp only [liftM, pureM]
            rw [bindM_ap]
            cases fc ρ2 <;> rfl
          | false => rfl
        | _ => rfl
    | _ => rfl
  | _ => rfl
@[simp] theorem partM_ap (f : M D) : partM f ρ = (match f ρ with | .ok (.int i) ρ2 => .ok (some i) ρ2 | .ok _ _ => .stuck | .exc c ρ' => .exc c ρ' | .stuck => .stuck) := by
  unfold partM bindM
  cases e : f ρ with
  | ok d ρ' => cases d <;> rfl
  | _ => rfl
@[simp] theorem slM_ap (fe : M D) (fl fh : M (Option Int)) : slM fe fl fh ρ = (match fe ρ with | .ok x ρ1 => (match fl ρ1 with | .ok l ρ2 => (match fh ρ2 with | .ok h ρ3 => liftM (slD l h x) ρ3 | .exc c ρ' => .exc c ρ' | .stuck => .stuck) | .exc c ρ' => .exc c ρ' | .stuck => .stuck) | .exc c ρ' => .exc c ρ' | .stuck => .stuck) := by
  unfold slM bindM
  cases fe ρ with
  | ok x ρ1 =>
    dsimp only
    cases fl ρ1 with
    | ok l ρ2 =>
      dsimp only
      cases fh ρ2 <;> rfl
    | _ => rfl
  | _ => rfl
@[simp] theorem catM_ap (fa fb : M D) : catM fa fb ρ = (match fa ρ with | .ok x ρ1 => (match fb ρ1 with | .ok y ρ2 => liftM (catD x y) ρ2 | .exc c ρ' => .exc c ρ' | .stuck => .stuck) | .exc c ρ' => .exc c ρ' | .stuck => .stuck) := by
  unfold catM bindM
  cases fa ρ with
  | ok x r1 =>
    dsimp only
    cases fb r1 <;> rfl
  | _ => rfl
@[simp] theorem lendM_ap (f : M D) : lendM f ρ = (match f (dataE ρ) with | .ok d _ => if atomD d = true then .ok d ρ else .stuck | _ => .stuck) := rfl
@[simp] theorem lendT_ap (f : M Bool) : lendT f ρ = (match f (dataE ρ) with | .ok b _ => .ok b ρ | _ => .stuck) := rfl
@[simp] theorem dataE_nil : dataE [] = [] := rfl
@[simp] theorem dataE_cons (s : Sl) (r : DL.Env) : dataE (s :: r) = dataS s :: dataE r := rfl
@[simp] theorem dataS_d (x : D) : dataS (.d x) = .d x := rfl
@[simp] theorem dataS_no : dataS .no = .no := rfl
@[simp] theorem dataS_cell (c : OC) : dataS (.cell c) = .d (ocD c) := rfl
@[simp] theorem dataS_exn (c : Str) : dataS (.exn c) = .exn c := rfl
@[simp] theorem getC_ap (i : Nat) : getC i ρ = (match ρ[i]? with | some (.cell c) => .ok c ρ | _ => .stuck) := rfl
@[simp] theorem putC_ap (i : Nat) (c : OC) : putC i c ρ = .ok () (ρ.set i (.cell c)) := rfl
@[simp] theorem setCM_ap (i : Nat) (f : M OC) : setCM i f ρ = (match f ρ with | .ok c ρ' => .ok .nx (ρ'.set i (.cell c)) | .exc c ρ' => .exc c ρ' | .stuck => .stuck) := by
  unfold setCM bindM
  cases f ρ <;> rfl
@[simp] theorem setXM_ap (i : Nat) (f : M D) : setXM i f ρ = (match f ρ with | .ok d ρ' => (match conOf d with | some c => .ok .nx (ρ'.set i (.cell c)) | none => .ok .nx (ρ'.set i (.d d))) | .exc c ρ' => .exc c ρ' | .stuck => .stuck) := by
  unfold setXM bindM
  cases e : f ρ with
  | ok d ρ' => first | (dsimp only; done) | (dsimp only; cases conOf d <;> rfl) | (cases conOf d <;> rfl)
  | _ => rfl
@[simp] theorem conOf_lst (xs : List D) : conOf (.lst xs) = some (.l xs) := rfl
@[simp] theorem conOf_dic (ks vs : List D) : conOf (.dic ks vs) = some (.k ks vs) := rfl
@[simp] theorem conOf_bl (b : Bool) : conOf (.bl b) = none := rfl
@[simp] theorem conOf_int (b : Int) : conOf (.int b) = none := rfl
@[simp] theorem conOf_str (b : Str) : conOf (.str b) = none := rfl
@[simp] theorem conOf_non : conOf .non = none := rfl
@[simp] theorem conOf_tup (xs : List D) : conOf (.tup xs) = none := rfl
@[simp] theorem ocL_ap (f : M (List D)) : ocL f ρ = (match f ρ with | .ok d ρ' => .ok (.l d) ρ' | .exc c ρ' => .exc c ρ' | .stuck => .stuck) := by
  unfold ocL bindM
  cases f ρ <;> rfl
@[simp] theorem ocM_ap (f : M OC) : ocM f ρ = (match f ρ with | .ok d ρ' => .ok (ocD d) ρ' | .exc c ρ' => .exc c ρ' | .stuck => .stuck) := by
  unfold ocM bindM
  cases f ρ <;> rfl
@[simp] theorem consC_ap (f : M OC) (g : M (List Ag)) : consC f g ρ = (match f ρ with | .ok x ρ1 => (match g ρ1 with | .ok xs ρ2 => .ok (.tmp x :: xs) ρ2 | .exc c ρ' => .exc c ρ' | .stuck => .stuck) | .exc c ρ' => .exc c ρ' | .stuck => .stuck) := by
  unfold consC bindM
  cases f ρ with
  | ok x r1 =>
    dsimp only
    cases g r1 <;> rfl
  | _ => rfl
@[simp] theorem retXM_ap (f : M D) : retXM f ρ = (match f ρ with | .ok d ρ' => (match conOf d with | some _ => .stuck | none => .ok (.ret d) ρ') | .exc c ρ' => .exc c ρ' | .stuck => .stuck) := by
  unfold retXM bindM
  cases e : f ρ with
  | ok d ρ' =>
    dsimp only
    cases conOf d <;> rfl
  | _ => rfl
@[simp] theorem giveX_ap (i : Nat) : giveX i ρ = (match ρ[i]? with | some (.cell c) => .ok (ocD c) (ρ.set i .no) | _ => .stuck) := by
  unfold giveX
  rw [bindM_ap, getC_ap]
  cases e : ρ[i]? with
  | none => rfl
  | some s => cases s <;> rfl
@[simp] theorem setGM_ap (g : OC → D → D → Option OC) (i : Nat) (fk fe : M D) : setGM g i fk fe ρ = (match fe ρ with | .ok d ρ1 => (match getC i ρ1 with | .ok _ ρ2 => (match fk ρ2 with | .ok z ρ3 => (match getC i ρ3 with | .ok c ρ4 => (match g c z d with | some c' => .ok .nx (ρ4.set i (.cell c')) | none => .stuck) | .exc c ρ' => .exc c ρ' | .stuck => .stuck) | .exc c ρ' => .exc c ρ' | .stuck => .stuck) | .exc c ρ' => .exc c ρ' | .stuck => .stuck) | .exc c ρ' => .exc c ρ' | .stuck => .stuck) := by
  unfold setGM
  simp only [bindM_ap]
  cases e : fe ρ with
  | ok d ρ1 =>
    dsimp only
    cases e2 : getC i ρ1 with
    | ok x ρ2 =>
      dsimp only
      cases e3 : fk ρ2 with
      | ok z ρ3 =>
        dsimp only
        cases e4 : getC i ρ3 with
        | ok xs ρ4 =>
          dsimp only
          cases g xs z d <;> rfl
        | _ => rfl
      | _ => rfl
    | _ => rfl
  | _ => rfl
@[simp] theorem opC_ap (i : Nat) (g : OC → D → Option D) (fb : M D) : opC i g fb ρ = (match fb ρ with | .ok y ρ1 => (match getC i ρ1 with | .ok xs ρ2 => liftM (g xs y) ρ2 | .exc c ρ' => .exc c ρ' | .stuck => .stuck) | .exc c ρ' => .exc c ρ' | .stuck => .stuck) := by
  unfold opC bindM
  cases fb ρ with
  | ok x r1 =>
    dsimp only
    cases getC i r1 <;> rfl
  | _ => rfl
@[simp] theorem revM_ap (f : M D) : revM f ρ = (match f ρ with | .ok (.lst xs) ρ' => .ok (.lst xs.reverse) ρ' | .ok _ _ => .stuck | .exc c ρ' => .exc c ρ' | .stuck => .stuck) := by
  unfold revM bindM
  cases e : f ρ with
  | ok d ρ' => cases d <;> rfl
  | _ => rfl
@[simp] theorem parM_ap (i j : Nat) (f : M (List D)) : parM i j f ρ = (match f ρ with | .ok [x, y] ρ' => .ok .nx ((ρ'.set i (.d x)).set j (.d y)) | .ok _ _ => .stuck | .exc c ρ' => .exc c ρ' | .stuck => .stuck) := by
  unfold parM bindM
  cases e : f ρ with
  | ok d ρ' =>
    match d with
    | [] => rfl
    | [_] => rfl
    | [_, _] => rfl
    | _ :: _ :: _ :: _ => rfl
  | _ => rfl
@[simp] theorem makeM_ap (n : Nat) (fI : List D → Res D) (fa : M (List D)) : makeM n fI fa ρ = (match fa ρ with | .ok as ρ1 => if as.length = n ∧ noInsL as = true then (match fI as with | .ok d _ => .ok d ρ1 | .exc e _ => .exc e ρ1 | .stuck => .stuck) else .stuck | .exc c ρ' => .exc c ρ' | .stuck => .stuck) := by
  unfold makeM bindM
  cases fa ρ <;> rfl
@[simp] theorem pairsM_nil : pairsM [] ρ = .ok [] ρ := rfl
@[simp] theorem pairsM_cons (fk fv : M D) (r : List (M D × M D)) : pairsM ((fk, fv) :: r) ρ = (match fk ρ with | .ok x ρ1 => (match fv ρ1 with | .ok y ρ2 => (match pairsM r ρ2 with | .ok ps ρ3 => .ok ((x, y) :: ps) ρ3 | .exc c ρ' => .exc c ρ' | .stuck => .stuck) | .exc c ρ' => .exc c ρ' | .stuck => .stuck) | .exc c ρ' => .exc c ρ' | .stuck => .stuck) := by
  show bindM fk _ ρ = _
  rw [bindM_ap]
  cases fk ρ with
  | ok x ρ1 =>
    dsimp only
    rw [bindM_ap]
    cases fv ρ1 with
    | ok y ρ2 =>
      dsimp only
      rw [bindM_ap]
      cases pairsM r ρ2 <;> rfl
    | _ => rfl
  | _ => rfl
@[simp] theorem dicC_ap (fs : List (M D × M D)) : dicC fs ρ = (match pairsM fs ρ with | .ok ps ρ1 => if difK (ps.map (·.1)) = true ∧ ps.length ≤ 15 then .ok (.k (ps.map (·.1)) (ps.map (·.2))) ρ1 else .stuck | .exc c ρ' => .exc c ρ' | .stuck => .stuck) := by
  unfold dicC
  rw [bindM_ap]
  cases e : pairsM fs ρ with
  | ok ps ρ1 =>
    dsimp only
    split <;> rfl
  | _ => rfl
@[simp] theorem dicM_ap (fs : List (M D × M D)) : dicM fs ρ = (match pairsM fs ρ with | .ok ps ρ1 => if difK (ps.map (·.1)) = true ∧ ps.length ≤ 15 then .ok (.dic (ps.map (·.1)) (ps.map (·.2))) ρ1 else .stuck | .exc c ρ' => .exc c ρ' | .stuck => .stuck) := by
  unfold dicM
  rw [bindM_ap]
  cases e : pairsM fs ρ with
  | ok ps ρ1 =>
    dsimp only
    split <;> rfl
  | _ => rfl
@[simp] theorem ifRaise_ap (f : M Bool) (e : Str) : ifRaise f e ρ = (match f ρ with | .ok b ρ' => if iniC ρ' = true then (if b = true then .exc e ρ' else .ok .nx ρ') else .stuck | .exc c ρ' => .exc c ρ' | .stuck => .stuck) := by
  unfold ifRaise atM
  cases h : f ρ with
  | ok b ρ' => cases b <;> rfl
  | _ => rfl
@[simp] theorem setFM_ap (c f : Str) (fe : M D) : setFM c f fe ρ = (match fe ρ with | .ok d ρ' => if iniC ρ' = true then (match (ρ'[0]? : Option Sl) with | some (.d (.ins c' ns ds)) => if c' = c ∧ f ∉ ns ∧ noIns d = true ∧ ns.length < 1000 then .ok .nx (ρ'.set 0 (.d (.ins c' (ns ++ [f]) (ds ++ [d])))) else .stuck | _ => .stuck) else .stuck | .exc c ρ' => .exc c ρ' | .stuck => .stuck) := by
  unfold setFM atM
  cases fe ρ <;> rfl
@[simp] theorem forIfM_ap (i : Nat) (fi : M (List D)) (f : M Bool) (e : Str) : forIfM i fi f e ρ = (match fi ρ with | .ok ds ρ' => if iniC ρ' = true then forIfGo i f e ds ρ' else .stuck | .exc c ρ' => .exc c ρ' | .stuck => .stuck) := by
  unfold forIfM atM
  cases fi ρ <;> rfl
end
theorem tgU_ap (n : Nat) (t : TgsF) (d : D) (ρ : DL.Env) : tgU n t d ρ = (match d with | .tup ds => if ds.length = n then t ds ρ else none | _ => none) := rfl
@[simp] theorem tgs0_nil (ρ : DL.Env) : tgs0 [] ρ = some ρ := rfl
@[simp] theorem tgs1_cons (t : TgF) (u : TgsF) (d : D) (r : List D) (ρ : DL.Env) : tgs1 t u (d :: r) ρ = (t d ρ).bind (u r) := rfl
@[simp] theorem itemsG_lst (xs : List D) : itemsG (.lst xs) = some xs := rfl
@[simp] theorem itemsG_tup (xs : List D) : itemsG (.tup xs) = some xs := rfl
@[simp] theorem itemsG_dic (ks vs : List D) : itemsG (.dic ks vs) = if ks.all isK = true then some ks else none := rfl
@[simp] theorem toSl_t (ρ : DL.Env) (c : OC) : toSl ρ (.tmp c) = .cell c := rfl
@[simp] theorem slots_t (c : OC) (r : List Ag) : slots (.tmp c :: r) = slots r := rfl
@[simp] theorem putBack_t (c : OC) (r : List Ag) (os : List OC) (ρ : DL.Env) : putBack (.tmp c :: r) os ρ = putBack r (os.drop 1) ρ := rfl
@[simp] theorem collect_n (a : DL.Env) (s : Sl) (b : DL.Env) : collect (.no :: a) (s :: b) = collect a b := by cases s <;> rfl
@[simp] theorem lenG_lst (xs : List D) : lenG [.lst xs] = some (.int xs.length) := rfl
@[simp] theorem lenG_tup (xs : List D) : lenG [.tup xs] = some (.int xs.length) := rfl
@[simp] theorem lenG_dic (ks vs : List D) (h : ks.all isK = true) : lenG [.dic ks vs] = some (.int ks.length) := by simp [lenG, lenD, lenK, h]
@[simp] theorem listCD_lst (xs : List D) : listCD [.lst xs] = some xs := rfl
@[simp] theorem listCD_tup (xs : List D) : listCD [.tup xs] = some xs := rfl
@[simp] theorem tupC_lst (xs : List D) : tupC [.lst xs] = some (.tup xs) := rfl
@[simp] theorem tupC_tup (xs : List D) : tupC [.tup xs] = some (.tup xs) := rfl
theorem boolsOf_map : ∀ bs : List Bool, boolsOf (bs.map D.bl) = some bs
  | [] => rfl
  | b :: bs => by simp [boolsOf, boolsOf_map bs]
@[simp] theorem allD_bl {α : Type} (f : α → Bool) (xs : List α) : allD [.lst (xs.map fun x => D.bl (f x))] = some (.bl (xs.all f)) := by
  have : (xs.map fun x => D.bl (f x)) = (xs.map f).map D.bl := by rw [List.map_map]; rfl
  rw [this]
  show (boolsOf _).map _ = _
  rw [boolsOf_map]
  simp [List.all_map]
@[simp] theorem anyD_bl {α : Type} (f : α → Bool) (xs : List α) : anyD [.lst (xs.map fun x => D.bl (f x))] = some (.bl (xs.any f)) := by
  have : (xs.map fun x => D.bl (f x)) = (xs.map f).map D.bl := by rw [List.map_map]; rfl
  rw [this]
  show (boolsOf _).map _ = _
  rw [boolsOf_map]
  simp [List.any_map]
@[simp] theorem boolsOf_nil : boolsOf [] = some [] := rfl
@[simp] theorem ltA_int (i j : Int) : ltA (.int i) (.int j) = some (.bl (decide (i < j))) := rfl
@[simp] theorem leA_int (i j : Int) : leA (.int i) (.int j) = some (.bl (decide (i ≤ j))) := rfl
@[simp] theorem gtA_int (i j : Int) : gtA (.int i) (.int j) = some (.bl (decide (j < i))) := rfl
@[simp] theorem geA_int (i j : Int) : geA (.int i) (.int j) = some (.bl (decide (j ≤ i))) := rfl
@[simp] theorem ixX_tup (xs : List D) (i : Int) (d : D) (h : atI xs i = some d) : ixX (.tup xs) (.int i) = some d := by simp [ixX, ixG, ixD, h]
@[simp] theorem ixX_lst (xs : List D) (i : Int) (d : D) (h : atI xs i = some d) : ixX (.lst xs) (.int i) = some d := by simp [ixX, ixG, ixD, h]
@[simp] theorem ix2_0 (a b : D) : ixX (.tup [a, b]) (.int 0) = some a := rfl
@[simp] theorem ix2_1 (a b : D) : ixX (.tup [a, b]) (.int 1) = some b := rfl
@[simp] theorem ix3_0 (a b c : D) : ixX (.tup [a, b, c]) (.int 0) = some a := rfl
@[simp] theorem ix3_1 (a b c : D) : ixX (.tup [a, b, c]) (.int 1) = some b := rfl
@[simp] theorem ix3_2 (a b c : D) : ixX (.tup [a, b, c]) (.int 2) = some c := rfl
@[simp] theorem atI_nat {α : Type} (xs : List α) (k : Nat) : atI xs (k : Int) = xs[k]? := by
  unfold atI ixN
  by_cases h : k < xs.length
  · simp [h]
  · have : ¬ ((k : Int) < (xs.length : Int)) := by omega
    simp [this]
    omega
end DL
end
section
namespace DL
open PySem PySem.Spec L2 DLS
open PyProof.Rows hiding St
/-! ### typed data that are keys: numbers, texts, tuples -/
mutual
theorem toPy_nk : ∀ k j : NestedKey, eqvD (nkD k) (nkD j) = decide (k = j)
  | .none, .none => by simp [nkD, eqvD, toPy, PyData.eqv]
  | .num a, .num b => by rw [nkD, nkD, eqv_int]; simp
  | .text a, .text b => by rw [nkD, nkD, eqv_str]; simp
  | .tup ks, .tup js => by
    simp only [nkD, eqvD, toPy, PyData.eqv]
    rw [toPy_nks ks js]
    simp
  | .none, .num _ => by simp [nkD, eqvD, toPy, PyData.eqv]
  | .none, .text _ => by simp [nkD, eqvD, toPy, PyData.eqv]
  | .none, .tup _ => by simp [nkD, eqvD, toPy, PyData.eqv]
  | .num _, .none => by simp [nkD, eqvD, toPy, PyData.eqv]
  | .num _, .text _ => by simp [nkD, eqvD, toPy, PyData.eqv]
  | .num _, .tup _ => by simp [nkD, eqvD, toPy, PyData.eqv]
  | .text _, .none => by simp [nkD, eqvD, toPy, PyData.eqv]
  | .text _, .num _ => by simp [nkD, eqvD, toPy, PyData.eqv]
  | .text _, .tup _ => by simp [nkD, eqvD, toPy, PyData.eqv]
  | .tup _, .none => by simp [nkD, eqvD, toPy, PyData.eqv]
  | .tup _, .num _ => by simp [nkD, eqvD, toPy, PyData.eqv]
  | .tup _, .text _ => by simp [nkD, eqvD, toPy, PyData.eqv]
theorem toPy_nks : ∀ ks js : List NestedKey, PyData.eqvAll (toPyL (nkDs ks)) (toPyL (nkDs js)) = decide (ks = js)
  | [], [] => by simp [nkDs, toPyL, PyData.eqvAll]
  | [], j :: js => by simp [nkDs, toPyL, PyData.eqvAll]
  | k :: ks, [] => by simp [nkDs, toPyL, PyData.eqvAll]
  | k :: ks, j :: js => by
    simp only [nkDs, toPyL, PyData.eqvAll]
    have h1 : PyData.eqv (toPy (nkD k)) (toPy (nkD j)) = decide (k = j) := toPy_nk k j
    rw [h1, toPy_nks ks js]
    simp
end
mutual
/-- texts without odd signs -/
def okN : NestedKey → Bool
  | .none => true
  | .num _ => true
  | .text x => PyData.strOk x
  | .tup ks => okNs ks
def okNs : List NestedKey → Bool
  | [] => true
  | k :: ks => okN k && okNs ks
end
mutual
theorem lay_nk : ∀ k : NestedKey, (toPy (nkD k)).canLay0 = okN k
  | .none => rfl
  | .num _ => rfl
  | .text _ => rfl
  | .tup ks => lay_nks ks
theorem lay_nks : ∀ ks : List NestedKey, PyData.canLayAll0 (toPyL (nkDs ks)) = okNs ks
  | [] => rfl
  | k :: ks => by
    simp only [nkDs, toPyL, PyData.canLayAll0, okNs]
    rw [lay_nk k, lay_nks ks]
end
mutual
theorem dep_nk : ∀ k : NestedKey, (toPy (nkD k)).depth = k.depth
  | .none => rfl
  | .num _ => rfl
  | .text _ => rfl
  | .tup ks => by
    simp only [nkD, toPy, PyData.depth, NestedKey.depth]
    rw [dep_nks ks]
theorem dep_nks : ∀ ks : List NestedKey, PyData.depthAll (toPyL (nkDs ks)) = NestedKey.depthAll ks
  | [] => rfl
  | k :: ks => by
    simp only [nkDs, toPyL, PyData.depthAll, NestedKey.depthAll]
    rw [dep_nk k, dep_nks ks]
end
class Kl (α : Type) where
  nk : α → NestedKey
  inj : ∀ a b, nk a = nk b → a = b
  ok : ∀ a, okN (nk a) = true
  dp : Nat
  dep : ∀ a, (nk a).depth ≤ dp
  le : dp ≤ 8
  alk : ∀ a b, PySem.W.alike (toPy (nkD (nk a))) (toPy (nkD (nk b))) = true
  nn : ∀ a, isNb (nkD (nk a)) = false
  tn : (∀ a, isTup (nkD (nk a)) = true) ∨ (∀ a, notTup (nkD (nk a)) = true)
def enc {α : Type} [Kl α] (a : α) : D := nkD (Kl.nk a)
section
variable {α : Type} [Kl α]
theorem okD_enc (a : α) : okD (enc a) = true := by
  unfold okD SeqAt.shaped enc
  rw [Bool.and_eq_true]
  refine ⟨by rw [lay_nk]; exact Kl.ok a, decide_eq_true ?_⟩
  rw [dep_nk]
  have := Kl.dep a
  have := Kl.le (α := α)
  omega
theorem eqvD_enc [DecidableEq α] (a b : α) : eqvD (enc a) (enc b) = decide (a = b) := by
  unfold enc
  rw [toPy_nk]
  by_cases h : a = b
  · subst h; simp
  · have : ¬ Kl.nk a = Kl.nk b := fun z => h (Kl.inj a b z)
    simp [h, this]
@[simp] theorem eqD_enc [DecidableEq α] (a b : α) : eqD (enc a) (enc b) = some (.bl (decide (a = b))) := by rw [eqD_ok (okD_enc a) (okD_enc b), eqvD_enc]
@[simp] theorem neD_enc [DecidableEq α] (a b : α) : neD (enc a) (enc b) = some (.bl (!decide (a = b))) := by rw [neD_ok (okD_enc a) (okD_enc b), eqvD_enc]
theorem lays_enc (xs : List α) : (xs.map enc).all layD = true := by
  rw [List.all_map, List.all_eq_true]
  intro a _
  exact layD_of (okD_enc a)
theorem dps_enc (xs : List α) : ∀ x ∈ xs.map enc, dpD x ≤ 8 := by
  intro x hx
  obtain ⟨a, _, rfl⟩ := List.mem_map.mp hx
  unfold dpD enc
  rw [dep_nk]
  have := Kl.dep a
  have := Kl.le (α := α)
  omega
theorem okD_lst (xs : List α) : okD (.lst (xs.map enc)) = true := okD_of (by rw [layD_lst]; exact lays_enc xs) (by have := dpD_lst (dps_enc xs); omega)
theorem okD_tup (xs : List α) : okD (.tup (xs.map enc)) = true := okD_of (by rw [layD_tup]; exact lays_enc xs) (by have := dpD_tup (dps_enc xs); omega)
theorem any_enc [DecidableEq α] (a : α) (xs : List α) : ((xs.map enc).any fun z => eqvD z (enc a)) = decide (a ∈ xs) := by
  induction xs with
  | nil => simp
  | cons x xs ih =>
    rw [List.map_cons, List.any_cons, ih, eqvD_enc]
    by_cases h : a = x
    · subst h; simp
    · have : ¬ x = a := fun z => h z.symm
      simp [h, this]
@[simp] theorem inX_lst [DecidableEq α] (a : α) (xs : List α) : inX (enc a) (.lst (xs.map enc)) = some (.bl (decide (a ∈ xs))) := by
  unfold inX inD
  simp only [okD_enc, okD_lst, Bool.and_self, if_true, any_enc]; rfl
@[simp] theorem inX_tup [DecidableEq α] (a : α) (xs : List α) : inX (enc a) (.tup (xs.map enc)) = some (.bl (decide (a ∈ xs))) := by
  unfold inX inD
  simp only [okD_enc, okD_tup, Bool.and_self, if_true, any_enc]; rfl
@[simp] theorem ninX_lst [DecidableEq α] (a : α) (xs : List α) : ninX (enc a) (.lst (xs.map enc)) = some (.bl (!decide (a ∈ xs))) := by
  unfold ninX ninD inD
  simp only [okD_enc, okD_lst, Bool.and_self, if_true, any_enc]; rfl
@[simp] theorem ninX_tup [DecidableEq α] (a : α) (xs : List α) : ninX (enc a) (.tup (xs.map enc)) = some (.bl (!decide (a ∈ xs))) := by
  unfold ninX ninD inD
  simp only [okD_enc, okD_tup, Bool.and_self, if_true, any_enc]; rfl
theorem eqv_lst_enc [DecidableEq α] (xs ys : List α) : eqvD (.lst (xs.map enc)) (.lst (ys.map enc)) = decide (xs = ys) := by
  rw [eqv_lst]
  induction xs generalizing ys with
  | nil => cases ys <;> simp
  | cons x xs ih =>
    cases ys with
    | nil => simp
    | cons y ys =>
      have := ih ys
      simp only [List.map_cons, List.length_cons, List.zip_cons_cons, List.all_cons, Nat.add_right_cancel_iff, eqvD_enc, List.cons.injEq] at this ⊢
      rw [← Bool.and_assoc, Bool.and_comm (decide _) (decide _), Bool.and_assoc, this]
      simp
@[simp] theorem eqD_lst_enc [DecidableEq α] (xs ys : List α) : eqD (.lst (xs.map enc)) (.lst (ys.map enc)) = some (.bl (decide (xs = ys))) := by rw [eqD_ok (okD_lst _) (okD_lst _), eqv_lst_enc]
@[simp] theorem neD_lst_enc [DecidableEq α] (xs ys : List α) : neD (.lst (xs.map enc)) (.lst (ys.map enc)) = some (.bl (!decide (xs = ys))) := by rw [neD_ok (okD_lst _) (okD_lst _), eqv_lst_enc]
/-! order -/
def ltE (a b : α) : Bool := dLt (enc a) (enc b)
def leE (a b : α) : Bool := dLe (enc a) (enc b)
theorem leE_lt (a b : α) : leE a b = !ltE b a := rfl
@[simp] theorem ltA_enc (a b : α) : ltA (enc a) (enc b) = some (.bl (ltE a b)) := by
  unfold ltA ltE
  have hc : cmpD (enc a) (enc b) = true := by
    unfold cmpD
    rw [okD_enc, okD_enc]
    have h1 := Kl.alk a b
    have h2 := Kl.nn a
    simp only [enc, h1, h2]; rfl
  cases q : ltD (enc a) (enc b) with
  | none => simp only [hc, if_true]; rfl
  | some d =>
    -- both are whole numbers
    unfold enc at q ⊢
    cases ha : Kl.nk a with
    | num i =>
      cases hb : Kl.nk b with
      | num j =>
        simp only [ha, hb, nkD, ltD_int, Option.some.injEq] at q ⊢
        subst q
        simp [dLt, toPy, PySem.W.dataLt, PySem.W.keyToks, PyProof.Rows.lexLt, PyProof.Rows.itemOrd, PyProof.Rows.itemLt]
      | _ => simp [ha, hb, nkD, ltD, intD] at q
    | _ => simp [ha, nkD, ltD, intD] at q
theorem leE_total : PySem.W.TotalLe (leE (α := α)) := ⟨fun a b c h1 h2 => dLe_total.trans _ _ _ h1 h2, fun a b => dLe_total.total _ _⟩
theorem leE_anti {a b : α} (h1 : leE a b = true) (h2 : leE b a = true) : a = b := by
  have al := Kl.alk a b
  have a1 : PyProof.Rows.lexLt PyProof.Rows.itemOrd (keyT (enc b)) (keyT (enc a)) = false := by simpa [leE, dLe, dLt, PySem.W.dataLt, keyT] using h1
  have a2 : PyProof.Rows.lexLt PyProof.Rows.itemOrd (keyT (enc a)) (keyT (enc b)) = false := by simpa [leE, dLe, dLt, PySem.W.dataLt, keyT] using h2
  have eq : keyT (enc a) = keyT (enc b) := (listOrd PyProof.Rows.itemOrd).total _ _ a2 a1
  have q : PyData.eqv (toPy (enc a)) (toPy (enc b)) = true := by
    cases q : PyData.eqv (toPy (enc a)) (toPy (enc b)) with
    | true => rfl
    | false =>
      have z := (PySem.W.toks_eqv (toPy (enc a)) (toPy (enc b)) al).2 q [] [.inl 0]
      have eq2 : PySem.W.keyToks (toPy (enc a)) = PySem.W.keyToks (toPy (enc b)) := eq
      rw [eq2, PySem.W.lex_pre] at z
      have y := (listOrd PyProof.Rows.itemOrd).irrefl (PySem.W.keyToks (toPy (enc b)))
      have y : PyProof.Rows.lexLt PyProof.Rows.itemOrd (PySem.W.keyToks (toPy (enc b))) (PySem.W.keyToks (toPy (enc b))) = false := y
      rw [y] at z
      exact absurd z (by simp [PyProof.Rows.lexLt])
  have q : eqvD (enc a) (enc b) = true := q
  unfold enc at q
  rw [toPy_nk] at q
  exact Kl.inj a b (of_decide_eq_true q)
/-- sorted -/
def srtE (xs : List α) : List α := isort leE xs
theorem insO_map (x : α) (xs : List α) : insO dLe (enc x) (xs.map enc) = (insO leE x xs).map enc := by
  induction xs with
  | nil => rfl
  | cons y ys ih =>
    simp only [List.map_cons, insO]
    show (if dLe (enc x) (enc y) = true then _ else _) = List.map enc (if dLe (enc x) (enc y) = true then _ else _)
    split
    · rfl
    · rw [ih]; rfl
theorem srtD_enc (xs : List α) : srtD (xs.map enc) = (srtE xs).map enc := by
  induction xs with
  | nil => rfl
  | cons y ys ih =>
    show insO dLe (enc y) (isort dLe (ys.map enc)) = _
    have ih : isort dLe (ys.map enc) = (isort leE ys).map enc := ih
    rw [ih, insO_map]; rfl
theorem srtE_perm (xs : List α) : (srtE xs).Perm xs := by
  unfold srtE
  rw [isort_eq leE_total]
  exact List.mergeSort_perm _ _
theorem srtE_sorted (xs : List α) : (srtE xs).Pairwise fun a b => leE a b = true := isort_pw leE_total xs
theorem srtE_id {xs : List α} (h : xs.Pairwise fun a b => leE a b = true) : srtE xs = xs :=
  List.Perm.eq_of_pairwise (le := fun a b => leE a b = true) (fun x y _ _ h1 h2 => leE_anti h1 h2) (srtE_sorted xs) h (srtE_perm xs)
theorem mem_srtE {x : α} {xs : List α} : x ∈ srtE xs ↔ x ∈ xs := (srtE_perm xs).mem_iff
theorem alk_enc (a b : α) : PySem.W.alike (toPy (enc a)) (toPy (enc b)) = true := Kl.alk a b
theorem tup_all (xs : List α) : ((xs.map enc).all isTup || (xs.map enc).all notTup) = true := by
  rw [Bool.or_eq_true]
  rcases Kl.tn (α := α) with h | h
  · left
    rw [List.all_map, List.all_eq_true]
    exact fun a _ => h a
  · right
    rw [List.all_map, List.all_eq_true]
    exact fun a _ => h a
theorem canSort_enc (xs : List α) : canSort (xs.map enc) = true := by
  unfold canSort
  rw [tup_all, Bool.and_true, Bool.and_eq_true]
  refine ⟨?_, ?_⟩
  · rw [List.all_map, List.all_eq_true]
    intro a _
    exact okD_enc a
  · rw [List.all_eq_true]
    intro d hd
    obtain ⟨a, _, rfl⟩ := List.mem_map.mp hd
    rw [List.all_map, List.all_eq_true]
    intro b _
    exact alk_enc a b
@[simp] theorem sortG_enc (xs : List α) : sortG [.lst (xs.map enc)] = some ((srtE xs).map enc) := by
  show (if canSort (xs.map enc) = true then some (srtD (xs.map enc)) else none).or _ = _
  rw [canSort_enc, if_pos rfl, srtD_enc]; rfl
end
/-! sets: whole numbers alone -/
class Ki (α : Type) extends Kl α where
  it : ∀ a, intK (nk a) = true
  tp : ∀ a, isTup (nkD (nk a)) = true
mutual
theorem keyN_nk : ∀ k : NestedKey, intK k = true → keyN (nkD k) = some k
  | .num _, _ => rfl
  | .tup ks, h => by rw [nkD, keyN, keyNs_nk ks (by rw [intK] at h; exact h)]; rfl
  | .none, h => by simp [intK] at h
  | .text _, _ => rfl
theorem keyNs_nk : ∀ ks : List NestedKey, intKs ks = true → keyNs (nkDs ks) = some ks
  | [], _ => rfl
  | k :: ks, h => by
    rw [intKs, Bool.and_eq_true] at h
    rw [nkDs, keyNs, keyN_nk k h.1, keyNs_nk ks h.2]; rfl
end
section
variable {α : Type} [Ki α] [DecidableEq α]
theorem keyN_enc (a : α) : keyN (enc a) = some (Kl.nk a) := keyN_nk _ (Ki.it a)
/-- without the later equal ones -/
def nubE : List α → List α → List α
  | _, [] => []
  | seen, x :: xs => if x ∈ seen then nubE seen xs else x :: nubE (x :: seen) xs
theorem mem_nubE {x : α} : ∀ {xs seen : List α}, x ∈ nubE seen xs ↔ x ∈ xs ∧ x ∉ seen
  | [], seen => by simp [nubE]
  | y :: ys, seen => by
    unfold nubE
    by_cases h : y ∈ seen
    · rw [if_pos h, mem_nubE]
      constructor
      · rintro ⟨h1, h2⟩; exact ⟨List.mem_cons_of_mem _ h1, h2⟩
      · rintro ⟨h1, h2⟩
        rcases List.mem_cons.mp h1 with rfl | h1
        · exact absurd h h2
        · exact ⟨h1, h2⟩
    · rw [if_neg h, List.mem_cons, mem_nubE]
      constructor
      · rintro (rfl | ⟨h1, h2⟩)
        · exact ⟨List.mem_cons_self, h⟩
        · exact ⟨List.mem_cons_of_mem _ h1, fun z => h2 (List.mem_cons_of_mem _ z)⟩
      · rintro ⟨h1, h2⟩
        by_cases e : x = y
        · exact .inl e
        · rcases List.mem_cons.mp h1 with rfl | h1
          · exact absurd rfl e
          · exact .inr ⟨h1, fun z => by rcases List.mem_cons.mp z with z | z; exact e z; exact h2 z⟩
theorem nubE_nodup : ∀ {xs seen : List α}, (nubE seen xs).Nodup
  | [], seen => List.nodup_nil
  | y :: ys, seen => by
    unfold nubE
    split
    · exact nubE_nodup
    · refine List.nodup_cons.mpr ⟨fun z => ?_, nubE_nodup⟩
      exact (mem_nubE.mp z).2 List.mem_cons_self
theorem nubK_enc : ∀ (xs seen : List α), nubK (seen.map Kl.nk) (xs.map enc) = (nubE seen xs).map enc
  | [], seen => rfl
  | x :: xs, seen => by
    have hc : (seen.map Kl.nk).contains (Kl.nk x) = decide (x ∈ seen) := by
      rw [List.contains_eq_mem]
      by_cases h : x ∈ seen
      · simp only [h, decide_true, decide_eq_true_eq]
        exact List.mem_map.mpr ⟨x, h, rfl⟩
      · simp only [h, decide_false, decide_eq_false_iff_not]
        intro z
        obtain ⟨y, hy, e⟩ := List.mem_map.mp z
        exact h (Kl.inj _ _ e ▸ hy)
    rw [List.map_cons]
    unfold nubK nubE
    simp only [keyN_enc, hc]
    by_cases h : x ∈ seen
    · simp only [h, decide_true, if_true]; exact nubK_enc xs seen
    · simp only [h, decide_false, if_false, List.map_cons]
      have := nubK_enc xs (x :: seen)
      rw [List.map_cons] at this
      rw [← this]; rfl
/-- sorted(set(..)) -/
def ssetE (xs : List α) : List α := srtE (nubE [] xs)
theorem sortS_enc77 (xs : List α) (h : (nubE [] xs).length < 77) : sortS [.lst (xs.map enc)] = some ((ssetE xs).map enc) := by
  have e : nubK [] (xs.map enc) = (nubE [] xs).map enc := nubK_enc xs []
  have hs : setOk (xs.map enc) = true := by
    unfold setOk
    rw [e, List.length_map, Bool.and_eq_true, decide_eq_true_eq]
    refine ⟨?_, h⟩
    rw [List.all_map, List.all_eq_true]
    intro a _
    show isKey (enc a) = true
    have hk := keyN_enc a
    have ht : isTup (enc a) = true := Ki.tp a
    unfold isKey
    rw [hk]
    have := Kl.dep a
    have := Kl.le (α := α)
    have hd : decide ((Kl.nk a).depth ≤ 8) = true := decide_eq_true (by omega)
    cases q : enc a <;> rw [q] at ht <;> first | exact hd | (simp [isTup] at ht)
  show (if (setOk (xs.map enc) && canSort (xs.map enc)) = true then some (srtD (nubK [] (xs.map enc))) else none) = _
  rw [hs, canSort_enc, Bool.and_self, if_pos rfl, e, srtD_enc]; rfl
theorem sortS_enc (xs : List α) (h : (nubE [] xs).length < 64) : sortS [.lst (xs.map enc)] = some ((ssetE xs).map enc) := sortS_enc77 xs (by omega)
theorem mem_ssetE {x : α} {xs : List α} : x ∈ ssetE xs ↔ x ∈ xs := by
  unfold ssetE
  rw [mem_srtE, mem_nubE]
  simp
theorem ssetE_nodup (xs : List α) : (ssetE xs).Nodup := (srtE_perm _).nodup_iff.mpr nubE_nodup
theorem ssetE_sorted (xs : List α) : (ssetE xs).Pairwise fun a b => leE a b = true := srtE_sorted _
theorem ssetE_len (xs : List α) : (ssetE xs).length = (nubE [] xs).length := (srtE_perm _).length_eq
end
end DL
end
section
namespace DL
open PySem PySem.Spec L2 DLS
open PyProof.Rows hiding St
/-! ### numbers, pairs, kinds, pieces, positions -/
instance : Kl Int where
  nk := .num
  inj := fun a b h => by injection h
  ok := fun _ => rfl
  dp := 0
  dep := fun _ => Nat.le_refl _
  le := by decide
  alk := fun _ _ => rfl
  nn := fun _ => rfl
  tn := .inr fun _ => rfl
class Kz (α : Type) extends Kl α where
  iz : ∀ a, intK (nk a) = true
instance : Kz Int where
  iz := fun _ => rfl
theorem alike2 {a b c d : PyData} (h1 : PySem.W.alike a c = true) (h2 : PySem.W.alike b d = true) : PySem.W.alike (.tuple [a, b]) (.tuple [c, d]) = true := by
  simp [PySem.W.alike, PySem.W.alikeAll, h1, h2]
/-- shallow enough to stand in a pair -/
class Sh (α : Type) [Kl α] : Prop where
  sh : Kl.dp α ≤ 3
instance : Sh Int where
  sh := by decide
instance {α β : Type} [Kl α] [Kl β] [ha : Sh α] [hb : Sh β] : Kl (α × β) where
  nk := fun p => .tup [Kl.nk p.1, Kl.nk p.2]
  inj := fun a b h => by
    injection h with h
    injection h with h1 h2
    injection h2 with h2
    exact Prod.ext (Kl.inj _ _ h1) (Kl.inj _ _ h2)
  ok := fun a => by simp [okN, okNs, Kl.ok]
  dp := max (Kl.dp α) (Kl.dp β) + 1
  dep := fun a => by
    have h1 := Kl.dep a.1
    have h2 := Kl.dep a.2
    simp only [NestedKey.depth, NestedKey.depthAll]
    omega
  le := by have := ha.sh; have := hb.sh; omega
  alk := fun a b => alike2 (Kl.alk _ _) (Kl.alk _ _)
  nn := fun _ => rfl
  tn := .inl fun _ => rfl
instance {α β : Type} [Kz α] [Kz β] [Sh α] [Sh β] : Kz (α × β) where
  iz := fun a => by
    show intK (.tup [Kl.nk a.1, Kl.nk a.2]) = true
    simp [intK, intKs, Kz.iz]
instance {α β : Type} [Kz α] [Kz β] [Sh α] [Sh β] : Ki (α × β) where
  it := Kz.iz
  tp := fun _ => rfl
abbrev Cell := Int × Int
abbrev Move := Cell × Cell
instance : Sh Cell where
  sh := by decide
instance : Sh Move where
  sh := by decide
structure Kd where
  i : Fin 26
  deriving DecidableEq
def kdS (k : Kd) : Str := ⟨#[97 + k.i.val]⟩
instance : Kl Kd where
  nk := fun k => .text (kdS k)
  inj := fun a b h => by
    obtain ⟨a, ha⟩ := a
    obtain ⟨b, hb⟩ := b
    simp [kdS] at h
    congr
  ok := fun k => by
    obtain ⟨⟨k, hk⟩⟩ := k
    simp [okN, PyData.strOk, kdS]
    omega
  dp := 0
  dep := fun _ => Nat.le_refl _
  le := by decide
  alk := fun _ _ => rfl
  nn := fun _ => rfl
  tn := .inr fun _ => rfl
structure Piece where
  cell : Cell
  side : Int
  kd : Kd
  deriving DecidableEq
theorem alike3 {a b c d e f : PyData} (h1 : PySem.W.alike a d = true) (h2 : PySem.W.alike b e = true) (h3 : PySem.W.alike c f = true) : PySem.W.alike (.tuple [a, b, c]) (.tuple [d, e, f]) = true := by
  simp [PySem.W.alike, PySem.W.alikeAll, h1, h2, h3]
instance : Kl Piece where
  nk := fun p => .tup [Kl.nk p.cell, Kl.nk p.side, Kl.nk p.kd]
  inj := fun a b h => by
    injection h with h
    injection h with h1 h
    injection h with h2 h
    injection h with h3 h
    obtain ⟨a1, a2, a3⟩ := a
    obtain ⟨b1, b2, b3⟩ := b
    have e1 : a1 = b1 := Kl.inj _ _ h1
    have e2 : a2 = b2 := Kl.inj _ _ h2
    have e3 : a3 = b3 := Kl.inj _ _ h3
    rw [e1, e2, e3]
  ok := fun a => by simp [okN, okNs, Kl.ok]
  dp := 2
  dep := fun a => by
    have h1 : (Kl.nk a.cell).depth ≤ 1 := Kl.dep a.cell
    have h2 : (Kl.nk a.side).depth ≤ 0 := Kl.dep a.side
    have h3 : (Kl.nk a.kd).depth ≤ 0 := Kl.dep a.kd
    simp only [NestedKey.depth, NestedKey.depthAll]
    omega
  le := by decide
  alk := fun a b => alike3 (Kl.alk a.cell b.cell) (Kl.alk a.side b.side) (Kl.alk a.kd b.kd)
  nn := fun _ => rfl
  tn := .inl fun _ => rfl
structure Pos where
  turn : Int
  ps : List Piece
  deriving DecidableEq
theorem nks_map {α : Type} [Kl α] (xs : List α) : nkDs (xs.map Kl.nk) = xs.map enc := by
  induction xs with
  | nil => rfl
  | cons x xs ih => rw [List.map_cons, nkDs, ih]; rfl
theorem alike_all {α : Type} [Kl α] : ∀ xs ys : List α, PySem.W.alikeAll (toPyL (nkDs (xs.map Kl.nk))) (toPyL (nkDs (ys.map Kl.nk))) = true
  | [], ys => by cases ys <;> rfl
  | x :: xs, [] => rfl
  | x :: xs, y :: ys => by
    simp only [List.map_cons, nkDs, toPyL, PySem.W.alikeAll]
    rw [Kl.alk x y, alike_all xs ys]; rfl
theorem okNs_map {α : Type} [Kl α] : ∀ xs : List α, okNs (xs.map Kl.nk) = true
  | [] => rfl
  | x :: xs => by rw [List.map_cons, okNs, Kl.ok, okNs_map xs]; rfl
theorem depNs_map {α : Type} [Kl α] : ∀ xs : List α, NestedKey.depthAll (xs.map Kl.nk) ≤ Kl.dp α
  | [] => Nat.zero_le _
  | x :: xs => by
    rw [List.map_cons, NestedKey.depthAll]
    have := Kl.dep x
    have := depNs_map xs
    omega
instance : Kl Pos where
  nk := fun p => .tup [Kl.nk p.turn, .tup (p.ps.map Kl.nk)]
  inj := fun a b h => by
    injection h with h
    injection h with h1 h
    injection h with h2 h
    injection h2 with h2
    obtain ⟨a1, a2⟩ := a
    obtain ⟨b1, b2⟩ := b
    have e1 : a1 = b1 := Kl.inj _ _ h1
    have e2 : a2 = b2 := by
      have : Function.Injective (Kl.nk (α := Piece)) := fun x y => Kl.inj x y
      exact (List.map_inj_right (fun x y => Kl.inj x y)).mp h2
    rw [e1, e2]
  ok := fun a => by simp [okN, okNs, Kl.ok, okNs_map]
  dp := 4
  dep := fun a => by
    have h1 : (Kl.nk a.turn).depth ≤ 0 := Kl.dep a.turn
    have h2 : NestedKey.depthAll (a.ps.map Kl.nk) ≤ 2 := depNs_map a.ps
    simp only [NestedKey.depth, NestedKey.depthAll]
    omega
  le := by decide
  alk := fun a b => alike2 (Kl.alk a.turn b.turn) (alike_all a.ps b.ps)
  nn := fun _ => rfl
  tn := .inl fun _ => rfl
structure Way where
  ride : Bool
  step : Cell
  n : Int
  deriving DecidableEq
def wayS (b : Bool) : Str := if b = true then "ride" else "leap"
instance : Kl Way where
  nk := fun p => .tup [.text (wayS p.ride), Kl.nk p.step, Kl.nk p.n]
  inj := fun a b h => by
    injection h with h
    injection h with h1 h
    injection h with h2 h
    injection h with h3 h
    injection h1 with h1
    obtain ⟨a1, a2, a3⟩ := a
    obtain ⟨b1, b2, b3⟩ := b
    have e1 : a1 = b1 := by
      have h1 : wayS a1 = wayS b1 := h1
      cases a1 <;> cases b1 <;> first | rfl | exact absurd h1 (by decide +kernel)
    have e2 : a2 = b2 := Kl.inj _ _ h2
    have e3 : a3 = b3 := Kl.inj _ _ h3
    rw [e1, e2, e3]
  ok := fun a => by
    have : okN (.text (wayS a.ride)) = true := by cases a.ride <;> decide +kernel
    simp [okNs, okN, Kl.ok] at this ⊢
    exact this
  dp := 2
  dep := fun a => by
    have h1 : (Kl.nk a.step).depth ≤ 1 := Kl.dep a.step
    have h2 : (Kl.nk a.n).depth ≤ 0 := Kl.dep a.n
    simp only [NestedKey.depth, NestedKey.depthAll]
    omega
  le := by decide
  alk := fun a b => alike3 rfl (Kl.alk a.step b.step) (Kl.alk a.n b.n)
  nn := fun _ => rfl
  tn := .inl fun _ => rfl
theorem enc_int (i : Int) : enc i = .int i := rfl
theorem enc_pos (p : Pos) : enc p = .tup [.int p.turn, .tup (p.ps.map enc)] := by
  show D.tup [.int p.turn, .tup (nkDs (p.ps.map Kl.nk))] = _
  rw [nks_map]
end DL
end
section
namespace DL
open PySem PySem.Spec L2 DLS
open PyProof.Rows hiding St
/-! ### a yard -/
structure Kind where
  leaps : List Cell
  rides : List Cell
  crown : Int
  deriving DecidableEq
def encK (k : Kind) : D := .tup [.lst (k.leaps.map enc), .lst (k.rides.map enc), .int k.crown]
structure Yd where
  h : Int
  w : Int
  holes : List Cell
  stuck : Str
  g0 : List Cell
  g1 : List Cell
  kinds : List (Kd × Kind)
def kindsD (ks : List (Kd × Kind)) : D := .dic (ks.map fun p => enc p.1) (ks.map fun p => encK p.2)
def yN : List Str := ["height", "width", "holes", "stuck", "goals", "kinds"]
def encY (y : Yd) : D := .ins "Yard" yN [.int y.h, .int y.w, .lst (y.holes.map enc), .str y.stuck, .tup [.lst (y.g0.map enc), .lst (y.g1.map enc)], kindsD y.kinds]
def getF (c f : Str) : D → Option D
  | .ins c' ns ds => if c' = c then fldD f ns ds else none
  | _ => none
def isIns (c nm : Str) : D → Bool
  | .ins c' ns _ => decide (c' = c ∧ nm ∉ ns)
  | _ => false
section
variable {ρ : DL.Env}
@[simp] theorem fldM_ap' (c f : Str) (fo : M D) : fldM c f fo ρ = (match fo ρ with | .ok d ρ2 => liftM (getF c f d) ρ2 | .exc c ρ' => .exc c ρ' | .stuck => .stuck) := by
  rw [fldM_ap]
  cases e : fo ρ with
  | ok d ρ' =>
    cases d with
    | ins c' ns ds =>
      dsimp only [getF]
      by_cases h : c' = c
      · simp only [h, if_true]
      · simp only [h, if_false]; rfl
    | _ => rfl
  | _ => rfl
@[simp] theorem methD_ap' (c nm : Str) (md : List Bool) (f : Fn) (fo : M D) (fa : M (List Ag)) : methD c nm md f fo fa ρ = (match fo ρ with | .ok d ρ2 => if isIns c nm d = true then callM f (mdM md (bindM fa fun ags => pureM (.d d :: ags))) ρ2 else .stuck | .exc c ρ' => .exc c ρ' | .stuck => .stuck) := by
  rw [methD_ap]
  cases e : fo ρ with
  | ok d ρ' =>
    cases d with
    | ins c' ns ds =>
      dsimp only [isIns]
      by_cases h : c' = c ∧ nm ∉ ns
      · simp only [h, not_false_eq_true, and_self, if_true, decide_true]
      · simp only [h, if_false, decide_false]; rfl
    | _ => rfl
  | _ => rfl
end
@[simp] theorem getF_h (y : Yd) : getF "Yard" "height" (encY y) = some (.int y.h) := by with_unfolding_all rfl
@[simp] theorem getF_w (y : Yd) : getF "Yard" "width" (encY y) = some (.int y.w) := by with_unfolding_all rfl
@[simp] theorem getF_ho (y : Yd) : getF "Yard" "holes" (encY y) = some (.lst (y.holes.map enc)) := by with_unfolding_all rfl
@[simp] theorem getF_st (y : Yd) : getF "Yard" "stuck" (encY y) = some (.str y.stuck) := by with_unfolding_all rfl
@[simp] theorem getF_go (y : Yd) : getF "Yard" "goals" (encY y) = some (.tup [.lst (y.g0.map enc), .lst (y.g1.map enc)]) := by with_unfolding_all rfl
@[simp] theorem getF_ki (y : Yd) : getF "Yard" "kinds" (encY y) = some (kindsD y.kinds) := by with_unfolding_all rfl
@[simp] theorem isIns_ob (y : Yd) : isIns "Yard" "on_board" (encY y) = true := by with_unfolding_all rfl
@[simp] theorem isIns_if (y : Yd) : isIns "Yard" "is_free" (encY y) = true := by with_unfolding_all rfl
@[simp] theorem isIns_ce (y : Yd) : isIns "Yard" "cells" (encY y) = true := by with_unfolding_all rfl
@[simp] theorem cell_0 (c : Cell) : ixX (enc c) (.int 0) = some (.int c.1) := rfl
@[simp] theorem cell_1 (c : Cell) : ixX (enc c) (.int 1) = some (.int c.2) := rfl
@[simp] theorem move_0 (c : Move) : ixX (enc c) (.int 0) = some (enc c.1) := rfl
@[simp] theorem move_1 (c : Move) : ixX (enc c) (.int 1) = some (enc c.2) := rfl
@[simp] theorem piece_0 (c : Piece) : ixX (enc c) (.int 0) = some (enc c.cell) := rfl
@[simp] theorem piece_1 (c : Piece) : ixX (enc c) (.int 1) = some (.int c.side) := rfl
@[simp] theorem piece_2 (c : Piece) : ixX (enc c) (.int 2) = some (enc c.kd) := rfl
@[simp] theorem kind_0 (c : Kind) : ixX (encK c) (.int 0) = some (.lst (c.leaps.map enc)) := rfl
@[simp] theorem kind_1 (c : Kind) : ixX (encK c) (.int 1) = some (.lst (c.rides.map enc)) := rfl
@[simp] theorem kind_2 (c : Kind) : ixX (encK c) (.int 2) = some (.int c.crown) := rfl
def onBoard (y : Yd) (c : Cell) : Bool := decide (0 ≤ c.1) && decide (c.1 < y.h) && (decide (0 ≤ c.2) && decide (c.2 < y.w))
def isFree (y : Yd) (c : Cell) : Bool := onBoard y c && !decide (c ∈ y.holes)
/-- the simp set for running mirrors -/
@[simp] theorem Yard_on_board_ap (y : Yd) (c : Cell) : Mi.Yard_on_board [.d (encY y), .d (enc c)] = .ok (.bl (onBoard y c)) [] := by
  unfold Mi.Yard_on_board onBoard
  by_cases h1 : 0 ≤ c.1 <;> by_cases h2 : c.1 < y.h <;> by_cases h3 : 0 ≤ c.2 <;> by_cases h4 : c.2 < y.w <;> simp [h1, h2, h3, h4]
@[simp] theorem Yard_is_free_ap (y : Yd) (c : Cell) : Mi.Yard_is_free [.d (encY y), .d (enc c)] = .ok (.bl (isFree y c)) [] := by
  unfold Mi.Yard_is_free isFree
  cases h : onBoard y c <;> simp [h]
end DL
end
section
namespace DL
open PySem PySem.Spec L2 DLS
open PyProof.Rows hiding St
/-! ### comprehensions and loops over typed lists -/
theorem restE_wipe : ∀ (ρ : DL.Env) (vs : List Nat), plainB vs ρ = true → restE ρ (wipeE ρ vs) vs = ρ := by
  intro ρ vs hp
  refine List.ext_getElem? fun i => ?_
  rw [restE_get ρ (wipeE ρ vs) (by rw [wipeE_len]), wipeE_get]
  by_cases h : i ∈ vs
  · simp [h]
  · simp [h]
theorem compGo_typed {α β : Type} {e : α → D} {e' : β → D} {tg : TgF} {tt : M Bool} {te : M D} {vs : List Nat} {p : α → Bool} {f : α → β} {ρ : DL.Env} : ∀ (xs : List α) (acc : List D),
    (∀ x ∈ xs, ∃ ρ1 ρ2, tg (e x) ρ = some ρ1 ∧ tt ρ1 = .ok (p x) ρ2 ∧ plainB vs ρ2 = true ∧ wipeE ρ2 vs = ρ ∧ (p x = true → ∃ ρ3, te ρ2 = .ok (e' (f x)) ρ3 ∧ plainB vs ρ3 = true ∧ wipeE ρ3 vs = ρ)) → acc.length + xs.length ≤ sizeLine →
    compGo tg tt te vs acc (xs.map e) ρ = .ok (acc ++ ((xs.filter p).map f).map e') ρ
  | [], acc, _, _ => by simp [compGo]
  | x :: xs, acc, h, hz => by
    obtain ⟨ρ1, ρ2, h1, h2, h3, h4, h5⟩ := h x List.mem_cons_self
    have hz' : acc.length < sizeLine := by simp at hz; omega
    have ih := fun acc' (q : acc'.length + xs.length ≤ sizeLine) => compGo_typed xs acc' (fun y hy => h y (List.mem_cons_of_mem _ hy)) q
    cases hp : p x with
    | true =>
      obtain ⟨ρ3, h6, h7, h8⟩ := h5 hp
      have e : itemM tt te acc ρ1 = .ok (acc ++ [e' (f x)]) ρ3 := by
        unfold itemM
        rw [bindM_ap, h2, hp]
        show bindM te _ ρ2 = _
        rw [bindM_ap, h6]
        dsimp only
        rw [if_pos hz']; rfl
      rw [List.map_cons]
      unfold compGo
      simp only [h1, e, h7, if_true, h8]
      rw [ih _ (by simp at hz ⊢; omega)]
      simp [List.filter_cons, hp]
    | false =>
      have e : itemM tt te acc ρ1 = .ok acc ρ2 := by
        unfold itemM
        rw [bindM_ap, h2, hp]; rfl
      rw [List.map_cons]
      unfold compGo
      simp only [h1, e, h3, if_true, h4]
      rw [ih _ (by simp at hz ⊢; omega)]
      simp [List.filter_cons, hp]
/-- [te for tg in xs if tt] -/
theorem comp_typed {α β : Type} {e : α → D} {e' : β → D} (xs : List α) (p : α → Bool) (f : α → β) {it : M (List D)} {tg : TgF} {tt : M Bool} {te : M D} {vs : List Nat} {ρ : DL.Env} (hit : it ρ = .ok (xs.map e) ρ) (hp : plainB vs ρ = true) (hl : xs.length ≤ sizeLine)
    (h : ∀ x ∈ xs, ∃ ρ1 ρ2, tg (e x) (wipeE ρ vs) = some ρ1 ∧ tt ρ1 = .ok (p x) ρ2 ∧ plainB vs ρ2 = true ∧ wipeE ρ2 vs = wipeE ρ vs ∧ (p x = true → ∃ ρ3, te ρ2 = .ok (e' (f x)) ρ3 ∧ plainB vs ρ3 = true ∧ wipeE ρ3 vs = wipeE ρ vs)) :
    compO it tg tt te vs ρ = .ok (((xs.filter p).map f).map e') ρ := by
  rw [compO_ap, hit]
  dsimp only
  rw [if_pos hp, compGo_typed (e' := e') (p := p) (f := f) xs [] h (by simpa using hl)]
  simp [restE_wipe ρ vs hp]
theorem comp_map {α β : Type} {e : α → D} {e' : β → D} (xs : List α) (f : α → β) {it : M (List D)} {tg : TgF} {te : M D} {vs : List Nat} {ρ : DL.Env} (hit : it ρ = .ok (xs.map e) ρ) (hp : plainB vs ρ = true) (hl : xs.length ≤ sizeLine)
    (h : ∀ x ∈ xs, ∃ ρ1, tg (e x) (wipeE ρ vs) = some ρ1 ∧ plainB vs ρ1 = true ∧ wipeE ρ1 vs = wipeE ρ vs ∧ ∃ ρ3, te ρ1 = .ok (e' (f x)) ρ3 ∧ plainB vs ρ3 = true ∧ wipeE ρ3 vs = wipeE ρ vs) :
    compO it tg (pureM true) te vs ρ = .ok ((xs.map f).map e') ρ := by
  have := comp_typed (e := e) (e' := e') (tt := pureM true) (te := te) (tg := tg) xs (fun _ => true) f hit hp hl fun x hx => by
    obtain ⟨ρ1, h1, h2, h3, h4⟩ := h x hx
    exact ⟨ρ1, ρ1, h1, rfl, h2, h3, fun _ => h4⟩
  rw [this, List.filter_eq_self.mpr (fun _ _ => rfl)]
theorem collect_tl : ∀ (a b : DL.Env), (∀ s ∈ a, isOwn s = false) → collect a b = []
  | [], b, _ => by cases b <;> rfl
  | s :: a, [], h => by cases s <;> rfl
  | s :: a, t :: b, h => by
    have h0 := h s List.mem_cons_self
    have ih := collect_tl a b fun u hu => h u (List.mem_cons_of_mem _ hu)
    cases s with
    | cell c => simp [isOwn] at h0
    | _ => cases t <;> exact ih
/-! the set of a yard's kinds -/
def lookK (ks : List (Kd × Kind)) (k : Kd) : Option Kind := (ks.find? fun p => decide (p.1 = k)).map (·.2)
theorem isK_kd (k : Kd) : isK (enc k) = true := rfl
theorem allK_kd (ks : List (Kd × Kind)) : (ks.map fun p => enc p.1).all isK = true := by
  rw [List.all_map, List.all_eq_true]
  exact fun p _ => isK_kd p.1
theorem sameK_kd (a b : Kd) : sameK (enc a) (enc b) = decide (a = b) := by
  show decide (kdS a = kdS b) = _
  by_cases h : a = b
  · subst h; simp
  · have : ¬ kdS a = kdS b := fun z => h (Kl.inj a b (by show NestedKey.text _ = NestedKey.text _; rw [z]))
    simp [h, this]
theorem dicGet_kd (ks : List (Kd × Kind)) (k : Kd) : dicGet (enc k) (ks.map fun p => enc p.1) (ks.map fun p => encK p.2) = (lookK ks k).map encK := by
  induction ks with
  | nil => rfl
  | cons p l ih =>
    simp only [List.map_cons, dicGet, sameK_kd, lookK, List.find?_cons]
    by_cases h : p.1 = k
    · simp [h]
    · simp only [h, decide_false]
      exact ih
theorem ixX_kd (ks : List (Kd × Kind)) (k : Kd) (K : Kind) (h : lookK ks k = some K) : ixX (kindsD ks) (enc k) = some (encK K) := by
  have e : ixG (kindsD ks) (enc k) = some (encK K) := by
    show (ixD (kindsD ks) (enc k)).or (if (isK (enc k) && (ks.map fun p => enc p.1).all isK) = true then dicGet (enc k) (ks.map fun p => enc p.1) (ks.map fun p => encK p.2) else none) = _
    rw [allK_kd, isK_kd, dicGet_kd, h]
    rfl
  show (ixG _ _).or _ = _
  rw [e]; rfl
@[simp] theorem inX_kd (ks : List (Kd × Kind)) (k : Kd) : inX (enc k) (kindsD ks) = some (.bl (lookK ks k).isSome) := by
  have e : inD (enc k) (kindsD ks) = some (.bl (lookK ks k).isSome) := by
    show (if (isK (enc k) && (ks.map fun p => enc p.1).all isK) = true then some (D.bl (dicGet (enc k) (ks.map fun p => enc p.1) (ks.map fun p => encK p.2)).isSome) else none) = _
    rw [allK_kd, isK_kd, dicGet_kd]
    simp
  show (inD _ _).or _ = _
  rw [e]; rfl
@[simp] theorem in01 (s : Int) : inX (.int s) (.tup [.int 0, .int 1]) = some (.bl (decide (s = 0 ∨ s = 1))) := by
  have := inX_tup (α := Int) s [0, 1]
  simpa [enc_int] using this
@[simp] theorem nin01 (s : Int) : ninX (.int s) (.tup [.int 0, .int 1]) = some (.bl (!decide (s = 0 ∨ s = 1))) := by
  have := ninX_tup (α := Int) s [0, 1]
  simpa [enc_int] using this
end DL
namespace DL
open PySem PySem.Spec L2 DLS
open PyProof.Rows hiding St
/-! ### running a body step by step -/
theorem seq_nx {a b : MS} {ρ ρ' : DL.Env} (h : a ρ = .ok .nx ρ') : seqM a b ρ = b ρ' := by rw [seqM_ap, h]
theorem seq_ret {a b : MS} {ρ ρ' : DL.Env} {d : D} (h : a ρ = .ok (.ret d) ρ') : seqM a b ρ = .ok (.ret d) ρ' := by rw [seqM_ap, h]
/-- a test that is not so, with nothing else -/
theorem if_no {c : M Bool} {a : MS} {ρ ρ' : DL.Env} (h : c ρ = .ok false ρ') : ifM c a skipM ρ = .ok .nx ρ' := by rw [ifM_ap, h]; rfl
theorem if_ret {c : M Bool} {b : MS} {f : M D} {ρ ρ' ρ'' : DL.Env} {d : D} (h : c ρ = .ok true ρ') (h2 : f ρ' = .ok d ρ'') : ifM c (retM f) b ρ = .ok (.ret d) ρ'' := by rw [ifM_ap, h]; simp [h2]
theorem ret_ok {f : M D} {ρ ρ' : DL.Env} {d : D} (h : f ρ = .ok d ρ') : retM f ρ = .ok (.ret d) ρ' := by rw [retM_ap, h]
theorem fn_run {rm : Bool} {n : Nat} {body : MS} {args ρ0 ρ' : DL.Env} {d : D} (h0 : args ++ List.replicate (n - args.length) .no = ρ0) (ha : (args.all fun s => !isOwn s) = true) (h : body ρ0 = .ok (.ret d) ρ') : fnM rm n body args = .ok d [] := by
  rw [fnM_ap, h0, h]
  dsimp only
  rw [collect_tl args ρ' fun s hs => by have := List.all_eq_true.mp ha s hs; simpa using this]
end DL
end
section
namespace DL
open PySem PySem.Spec L2 DLS
open PyProof.Rows hiding St
/-! ### positions -/
def sides01 (s : Int) : Bool := decide (s = 0 ∨ s = 1)
def isPiece (y : Yd) (p : Piece) : Bool := isFree y p.cell && (sides01 p.side && (lookK y.kinds p.kd).isSome)
@[simp] theorem tgU_piece (t : TgsF) (p : Piece) (ρ : DL.Env) : tgU 3 t (enc p) ρ = t [enc p.cell, .int p.side, enc p.kd] ρ := rfl
@[simp] theorem tgU_pos (t : TgsF) (p : Pos) (ρ : DL.Env) : tgU 2 t (enc p) ρ = t [.int p.turn, .tup (p.ps.map enc)] ρ := by rw [enc_pos]; rfl
@[simp] theorem tgU_cell (t : TgsF) (c : Cell) (ρ : DL.Env) : tgU 2 t (enc c) ρ = t [.int c.1, .int c.2] ρ := rfl
@[simp] theorem tgU_pair {α β : Type} [Kl α] [Kl β] [Sh α] [Sh β] (t : TgsF) (c : α × β) (ρ : DL.Env) : tgU 2 t (enc c) ρ = t [enc c.1, enc c.2] ρ := rfl
@[simp] theorem tgU_kind (t : TgsF) (k : Kind) (ρ : DL.Env) : tgU 3 t (encK k) ρ = t [.lst (k.leaps.map enc), .lst (k.rides.map enc), .int k.crown] ρ := rfl
@[simp] theorem is_piece_ap (y : Yd) (p : Piece) : Mi.is_piece [.d (encY y), .d (enc p)] = .ok (.bl (isPiece y p)) [] := by
  unfold Mi.is_piece isPiece sides01
  cases h : isFree y p.cell <;> by_cases h2 : p.side = 0 ∨ p.side = 1 <;> simp [h, h2]
def crownOf (y : Yd) (k : Kd) : Int := ((lookK y.kinds k).map (·.crown)).getD 0
def crowns (y : Yd) (ps : List Piece) (side : Int) : List Cell := (ps.filter fun p => decide (p.side = side) && decide (crownOf y p.kd = 1)).map (·.cell)
/-- rising -/
def risingB {α : Type} (lt : α → α → Bool) : List α → Bool
  | a :: b :: l => lt a b && risingB lt (b :: l)
  | _ => true
def pairB {α : Type} (lt : α → α → Bool) (xs : List α) (k : Nat) : Bool := match xs[k]?, xs[k + 1]? with
  | some a, some b => lt a b
  | _, _ => true
theorem pairB_of {α : Type} {lt : α → α → Bool} {xs : List α} {k : Nat} {a b : α} (ha : xs[k]? = some a) (hb : xs[k + 1]? = some b) : pairB lt xs k = lt a b := by unfold pairB; rw [ha, hb]
theorem rising_at {α : Type} (lt : α → α → Bool) : ∀ xs : List α, ((List.range (xs.length - 1)).all (pairB lt xs)) = risingB lt xs
  | [] => rfl
  | [a] => rfl
  | a :: b :: l => by
    have ih := rising_at lt (b :: l)
    have e : (a :: b :: l).length - 1 = ((b :: l).length - 1) + 1 := by simp
    rw [e, List.range_succ_eq_map, List.all_cons, List.all_map]
    simp only [risingB]
    rw [← ih]
    rfl
theorem inRg_nat (n : Nat) (h : n ≤ 1000000) : inRg (n : Int) = true := by
  unfold inRg
  rw [Bool.and_eq_true, decide_eq_true_eq, decide_eq_true_eq]
  constructor <;> omega
theorem rg2_nat (n : Nat) (h : n ≤ 1000000) : rg2 [.int 1, .int n] = some ((List.range (n - 1)).map fun k : Nat => D.int ((k : Int) + 1)) := by
  have h1 : inRg 1 = true := by decide
  have h2 := inRg_nat n h
  have e : ((n : Int) - 1).toNat = n - 1 := by omega
  have e3 : ((List.range (n - 1)).map fun k : Nat => D.int (1 + (k : Int))) = (List.range (n - 1)).map fun k : Nat => D.int ((k : Int) + 1) := List.map_congr_left fun k _ => by rw [Int.add_comm]
  rw [← e3]
  simp only [rg2, h1, h2, and_self, if_true, e]
theorem lst_at {α : Type} (e : α → D) (xs : List α) (k : Nat) (a : α) (h : xs[k]? = some a) : ixX (.lst (xs.map e)) (.int k) = some (e a) :=
  ixX_lst _ _ _ (by rw [atI_nat, List.getElem?_map, h]; rfl)
theorem rising_ap {α : Type} [Kl α] (xs : List α) (hl : xs.length ≤ 1000) : Mi.rising [.d (.lst (xs.map enc))] = .ok (.bl (risingB ltE xs)) [] := by
  unfold Mi.rising
  have c := comp_map (e := fun k : Nat => D.int ((k : Int) + 1)) (e' := D.bl) (it := rg2M (consM (pureM (.int 1)) (consM (callD lenG (consM (getM 0) (pureM []))) (pureM [])))) (tg := tgN 1) (te := (op2 ltA (op2 ixX (getM 0) (op2 subD (getM 1) (pureM (.int 1)))) (op2 ixX (getM 0) (getM 1)))) (vs := [1])
    (ρ := [.d (.lst (xs.map enc)), .no]) (List.range (xs.length - 1)) (pairB ltE xs) (by simp [rg2_nat _ (show xs.length ≤ 1000000 by omega)]) rfl (by rw [sizeLine_eq]; simp; omega) (fun k hk => by
      have hk : k < xs.length - 1 := List.mem_range.mp hk
      obtain ⟨a, ha⟩ : ∃ a, xs[k]? = some a := ⟨_, List.getElem?_eq_getElem (by omega)⟩
      obtain ⟨b, hb⟩ : ∃ b, xs[k + 1]? = some b := ⟨_, List.getElem?_eq_getElem (by omega)⟩
      have e1 := lst_at enc xs k a ha
      have e2 := lst_at enc xs (k + 1) b hb
      rw [show ((k + 1 : Nat) : Int) = (k : Int) + 1 from rfl] at e2
      refine ⟨[.d (.lst (xs.map enc)), .d (.int ((k : Int) + 1))], rfl, rfl, rfl, [.d (.lst (xs.map enc)), .d (.int ((k : Int) + 1))], ?_, rfl, rfl⟩
      simp [e1, e2, pairB_of ha hb])
  simp [-List.map_map, c]
  have : allD [.lst (((List.range (xs.length - 1)).map (pairB ltE xs)).map D.bl)] = some (.bl (risingB ltE xs)) := by
    rw [← rising_at]
    show (boolsOf _).map _ = _
    rw [boolsOf_map, Option.map_some, List.all_map]; rfl
  rw [this]; rfl
end DL
end
section
namespace DL
open PySem PySem.Spec L2 DLS
open PyProof.Rows hiding St
def ltC (a b : Piece) : Bool := ltE a.cell b.cell
def isPos (y : Yd) (p : Pos) : Bool := sides01 p.turn && (decide (1 ≤ p.ps.length) && decide (p.ps.length ≤ 10)) && (p.ps.all (isPiece y) && (risingB ltC p.ps && decide (0 < (crowns y p.ps 0 ++ crowns y p.ps 1).length)))
theorem allD_bls (bs : List Bool) : allD [.lst (bs.map D.bl)] = some (.bl (bs.all id)) := by
  show (boolsOf _).map _ = _
  rw [boolsOf_map]; rfl
theorem all_id {α : Type} (f : α → Bool) (xs : List α) : (xs.map f).all id = xs.all f := by rw [List.all_map]; rfl
@[simp] theorem addD_lst {α : Type} (e : α → D) (xs ys : List α) (h : xs.length + ys.length ≤ 1000000) : addD (.lst (xs.map e)) (.lst (ys.map e)) = some (.lst ((xs ++ ys).map e)) := by
  show (if (xs.map e).length + (ys.map e).length ≤ sizeLine then _ else none) = _
  rw [if_pos (by rw [sizeLine_eq]; simp; omega), List.map_append]
end DL
end
section
namespace DL
open PySem PySem.Spec L2 DLS
open PyProof.Rows hiding St
/-! ### where a piece goes -/
def encSK (p : Int × Kd) : D := .tup [.int p.1, enc p.2]
def pieceAt (ps : List Piece) (c : Cell) : Option (Int × Kd) := ps.findSome? fun p => if p.cell = c then some (p.side, p.kd) else none
def optD {α : Type} (e : α → D) : Option α → D
  | none => .non
  | some a => e a
@[simp] theorem isNb_opt (o : Option (Int × Kd)) : isNb (optD encSK o) = o.isNone := by cases o <;> rfl
def mayEnd (y : Yd) (ps : List Piece) (side : Int) (c : Cell) : Bool := isFree y c && (match pieceAt ps c with | none => true | some z => !decide (z.1 = side))
def turnS (s : Cell) (side : Int) : Cell := if side = 0 then s else (0 - s.1, 0 - s.2)
@[simp] theorem turned_step_ap (s : Cell) (side : Int) : Mi.turned_step [.d (enc s), .d (.int side)] = .ok (enc (turnS s side)) [] := by
  unfold Mi.turned_step turnS
  by_cases h : side = 0
  · simp [h]
  · simp [h]; rfl
def goneC (c s : Cell) (k : Int) : Cell := (c.1 + k * s.1, c.2 + k * s.2)
@[simp] theorem gone_ap (c s : Cell) (k : Int) (h : -(2 ^ 64) < k ∧ k < 2 ^ 64) : Mi.gone [.d (enc c), .d (enc s), .d (.int k)] = .ok (enc (goneC c s k)) [] := by
  unfold Mi.gone goneC
  simp [mulD_l _ _ h.1 h.2]
  rfl
/-- how often a piece may go -/
def rideGo (y : Yd) (ps : List Piece) (side : Int) (c s : Cell) : Nat → Int → List Int
  | 0, _ => []
  | n + 1, k => if mayEnd y ps side (goneC c s k) = true then k :: (if (pieceAt ps (goneC c s k)).isSome = true then [] else rideGo y ps side c s n (k + 1)) else []
def rides (y : Yd) (ps : List Piece) (side : Int) (c s : Cell) : List Int := rideGo y ps side c s 8 1
/-- a board of five, a step that is one -/
def YOk (y : Yd) : Prop := y.h ≤ 5 ∧ y.w ≤ 5
theorem free_of {y : Yd} {c : Cell} (h : isFree y c = true) : (0 ≤ c.1 ∧ c.1 < y.h) ∧ 0 ≤ c.2 ∧ c.2 < y.w := by
  unfold isFree onBoard at h
  simp only [Bool.and_eq_true, decide_eq_true_eq] at h
  exact h.1
end DL
end
section
namespace DL
open PySem PySem.Spec L2 DLS
open PyProof.Rows hiding St
instance : Sh Way where
  sh := by decide
instance : Sh Piece where
  sh := by decide
instance : Sh (Cell × Way) where
  sh := by decide
structure YGood (y : Yd) : Prop where
  hw : YOk y
  nz : ∀ k K, lookK y.kinds k = some K → ∀ s ∈ K.rides, s ≠ (0, 0)
  ll : ∀ k K, lookK y.kinds k = some K → K.leaps.length ≤ 100 ∧ K.rides.length ≤ 100
  lh : y.holes.length ≤ 100
  lg : y.g0.length ≤ 100 ∧ y.g1.length ≤ 100
  sk : y.stuck = "lost" ∨ y.stuck = "drawn"
def leapW (y : Yd) (ps : List Piece) (side : Int) (c s : Cell) : List (Cell × Way) := if mayEnd y ps side (goneC c (turnS s side) 1) = true then [(goneC c (turnS s side) 1, ⟨false, turnS s side, 1⟩)] else []
def rideW (y : Yd) (ps : List Piece) (side : Int) (c s : Cell) : List (Cell × Way) := (rides y ps side c (turnS s side)).map fun k => (goneC c (turnS s side) k, ⟨true, turnS s side, k⟩)
def waysK (y : Yd) (ps : List Piece) (side : Int) (c : Cell) (K : Kind) : List (Cell × Way) := K.leaps.flatMap (leapW y ps side c) ++ K.rides.flatMap (rideW y ps side c)
end DL
end
section
namespace DL
open PySem PySem.Spec L2 DLS
open PyProof.Rows hiding St
instance : Sh Move where
  sh := by decide
def waysOf (y : Yd) (ps : List Piece) (p : Piece) : List (Cell × Way) := match lookK y.kinds p.kd with
  | some K => waysK y ps p.side p.cell K
  | none => []
def pieceW (y : Yd) (p : Pos) (q : Piece) : List (Move × Way) := if q.side = p.turn then (waysOf y p.ps q).map fun w => ((q.cell, w.1), w.2) else []
def allWays (y : Yd) (p : Pos) : List (Move × Way) := p.ps.flatMap (pieceW y p)
structure POk (y : Yd) (p : Pos) : Prop where
  pc : p.ps.all (isPiece y) = true
  tn : p.turn = 0 ∨ p.turn = 1
  ln : p.ps.length ≤ 10
theorem POk.of {y : Yd} {p : Pos} (h : isPos y p = true) : POk y p := by
  unfold isPos sides01 at h
  simp only [Bool.and_eq_true, decide_eq_true_eq] at h
  exact ⟨h.2.1, h.1.1, h.1.2.2⟩
def goalsOf (y : Yd) (s : Int) : List Cell := if s = 0 then y.g0 else y.g1
theorem goals_at (y : Yd) (s : Int) (h : s = 0 ∨ s = 1) : ixX (.tup [.lst (y.g0.map enc), .lst (y.g1.map enc)]) (.int s) = some (.lst ((goalsOf y s).map enc)) := by
  rcases h with rfl | rfl <;> rfl
end DL
end
section
namespace DL
open PySem PySem.Spec L2 DLS
open PyProof.Rows hiding St
/-! ### verdicts -/
inductive Vd where
  | non | won (s : Int) | drawn
  deriving DecidableEq
/-! ### moves, and the position behind one -/
/-- fewer than 77 different moves -/
def Few64 (y : Yd) (p : Pos) : Prop := (nubE [] ((allWays y p).map (·.1))).length < 77
end DL
end
section
namespace DL
open PySem PySem.Spec L2 DLS
open PyProof.Rows hiding St
/-! ### what Yard looks at -/
def absI (i : Int) : Int := if i < 0 then -i else i
def isStep (c : Cell) : Bool := !decide (c = ((0, 0) : Cell)) && (decide (absI c.1 ≤ 4) && decide (absI c.2 ≤ 4))
theorem is_step_ap (c : Cell) : Mi.is_step [.d (enc c)] = .ok (.bl (isStep c)) [] := by
  unfold Mi.is_step isStep
  have e0 : neD (enc c) (.tup [.int 0, .int 0]) = some (.bl (!decide (c = ((0, 0) : Cell)))) := neD_enc c ((0, 0) : Cell)
  have a1 : absD [.int c.1] = some (.int (absI c.1)) := rfl
  have a2 : absD [.int c.2] = some (.int (absI c.2)) := rfl
  by_cases h : c = ((0, 0) : Cell)
  · rw [h] at e0 ⊢; simp [e0]
  · by_cases h1 : absI c.1 ≤ 4
    · simp [e0, h, a1, a2, h1]
    · simp [e0, h, a1, a2, h1]
def stepsAll (K : Kind) : Bool := (K.leaps ++ K.rides).all isStep
def okKind (K : Kind) : Bool := sides01 K.crown && (risingB ltE K.leaps && (risingB ltE K.rides && stepsAll K))
theorem kd_len : ∀ k : Kd, lenG [enc k] = some (.int 1) := by
  rintro ⟨⟨i, h⟩⟩; rfl
theorem kd_let : ∀ k : Kd, ninX (enc k) (.str "abcdefghijklmnopqrstuvwxyz") = some (.bl false) := by
  rintro ⟨⟨i, h⟩⟩
  have : i = 0 ∨ i = 1 ∨ i = 2 ∨ i = 3 ∨ i = 4 ∨ i = 5 ∨ i = 6 ∨ i = 7 ∨ i = 8 ∨ i = 9 ∨ i = 10 ∨ i = 11 ∨ i = 12 ∨ i = 13 ∨ i = 14 ∨ i = 15 ∨ i = 16 ∨ i = 17 ∨ i = 18 ∨ i = 19 ∨ i = 20 ∨ i = 21 ∨ i = 22 ∨ i = 23 ∨ i = 24 ∨ i = 25 := by omega
  rcases this with rfl | rfl | rfl | rfl | rfl | rfl | rfl | rfl | rfl | rfl | rfl | rfl | rfl | rfl | rfl | rfl | rfl | rfl | rfl | rfl | rfl | rfl | rfl | rfl | rfl | rfl <;> kernel_rfl
theorem is_kind_ap (k : Kd) (K : Kind) (h1 : K.leaps.length ≤ 100) (h2 : K.rides.length ≤ 100) : Mi.is_kind [.d (enc k), .d (encK K)] = .ok (.bl (okKind K)) [] := by
  unfold Mi.is_kind okKind sides01
  have hl := kd_len k
  have ht := kd_let k
  have c := comp_map (e := enc) (e' := D.bl) (it := itemsGM (op2 addD (getM 2) (getM 3))) (tg := tgN 5) (te := callM Mi.is_step (mdM [false] (consA (getM 5) (pureM [])))) (vs := [5])
    (ρ := [.d (enc k), .d (encK K), .d (.lst (K.leaps.map enc)), .d (.lst (K.rides.map enc)), .d (.int K.crown), .no]) (K.leaps ++ K.rides) isStep (by simp [addD, sizeLine_eq, show K.leaps.length + K.rides.length ≤ 16777216 by omega]) rfl (by rw [sizeLine_eq, List.length_append]; omega) (fun c hc => by
      refine ⟨[.d (enc k), .d (encK K), .d (.lst (K.leaps.map enc)), .d (.lst (K.rides.map enc)), .d (.int K.crown), .d (enc c)], rfl, rfl, rfl, [.d (enc k), .d (encK K), .d (.lst (K.leaps.map enc)), .d (.lst (K.rides.map enc)), .d (.int K.crown), .d (enc c)], ?_, rfl, rfl⟩
      simp [is_step_ap])
  have r1 := rising_ap K.leaps (by omega)
  have r2 := rising_ap K.rides (by omega)
  have ha : allD [.lst (((K.leaps ++ K.rides).map isStep).map D.bl)] = some (.bl (stepsAll K)) := by
    unfold stepsAll
    show (boolsOf _).map _ = _
    rw [boolsOf_map, Option.map_some, List.all_map]; rfl
  obtain ⟨env, he⟩ : ∃ env : DL.Env, env = [.d (enc k), .d (encK K), .d (.lst (K.leaps.map enc)), .d (.lst (K.rides.map enc)), .d (.int K.crown), .no] := ⟨_, rfl⟩
  rw [← he] at c
  generalize K.leaps ++ K.rides = L at c ha
  by_cases hc : K.crown = 0 ∨ K.crown = 1
  · refine fn_run (ρ0 := [.d (enc k), .d (encK K), .no, .no, .no, .no]) (ρ' := env) rfl rfl ((seq_nx (ρ' := env) (by simp [he])).trans ((seq_nx (ρ' := env) (by simp [he, hl, ht, hc])).trans ?_))
    refine ret_ok ?_
    cases b1 : risingB ltE K.leaps
    · simp [he, r1, b1, hc]
    · cases b2 : risingB ltE K.rides
      · simp [he, r1, r2, b1, b2, hc]
      · have h0 : env[2]? = some (.d (.lst (K.leaps.map enc))) := by rw [he]; rfl
        have h3 : env[3]? = some (.d (.lst (K.rides.map enc))) := by rw [he]; rfl
        simp [-List.map_map, h0, h3, r1, r2, b1, b2, hc, c, ha]
  · refine fn_run (ρ0 := [.d (enc k), .d (encK K), .no, .no, .no, .no]) (ρ' := env) rfl rfl ((seq_nx (ρ' := env) (by simp [he])).trans (seq_ret (if_ret (ρ' := env) (by simp [he, hl, ht, hc]) (by simp [hc]))))
end DL
end
section
namespace DL
open PySem PySem.Spec L2 DLS
open PyProof.Rows hiding St
/-! ### Yard is made -/
@[simp] theorem noIns_enc {α : Type} [Kl α] (a : α) : noIns (enc a) = true := nk_noIns _
@[simp] theorem noInsL_map {α : Type} (e : α → D) (h : ∀ a, noIns (e a) = true) : ∀ xs : List α, noInsL (xs.map e) = true
  | [] => rfl
  | a :: xs => by rw [List.map_cons, noInsL, h, noInsL_map e h xs]; rfl
@[simp] theorem noInsL_enc {α : Type} [Kl α] (xs : List α) : noInsL (xs.map enc) = true := noInsL_map _ noIns_enc xs
@[simp] theorem noIns_lst (xs : List D) : noIns (.lst xs) = noInsL xs := rfl
@[simp] theorem noIns_tup (xs : List D) : noIns (.tup xs) = noInsL xs := rfl
@[simp] theorem noIns_int (i : Int) : noIns (.int i) = true := rfl
@[simp] theorem noIns_str (i : Str) : noIns (.str i) = true := rfl
@[simp] theorem noInsL_nil : noInsL [] = true := rfl
@[simp] theorem noInsL_cons (d : D) (ds : List D) : noInsL (d :: ds) = (noIns d && noInsL ds) := rfl
@[simp] theorem noIns_K (k : Kind) : noIns (encK k) = true := by simp [encK]
@[simp] theorem noIns_kD (ks : List (Kd × Kind)) : noIns (kindsD ks) = true := noInsL_map (fun p : Kd × Kind => encK p.2) (fun p => noIns_K p.2) ks
theorem on_board_gen (d : D) (h w : Int) (c : Cell) (e1 : getF "Yard" "height" d = some (.int h)) (e2 : getF "Yard" "width" d = some (.int w)) : Mi.Yard_on_board [.d d, .d (enc c)] = .ok (.bl (decide (0 ≤ c.1) && decide (c.1 < h) && (decide (0 ≤ c.2) && decide (c.2 < w)))) [] := by
  unfold Mi.Yard_on_board
  by_cases h1 : 0 ≤ c.1
  · by_cases h2 : c.1 < h
    · by_cases h3 : 0 ≤ c.2 <;> simp [e1, e2, h1, h2, h3]
    · simp [e1, e2, h1, h2]
  · simp [e1, e2, h1]
theorem is_free_gen (d : D) (h w : Int) (holes : List Cell) (c : Cell) (e0 : isIns "Yard" "on_board" d = true) (e1 : getF "Yard" "height" d = some (.int h)) (e2 : getF "Yard" "width" d = some (.int w)) (e3 : getF "Yard" "holes" d = some (.lst (holes.map enc))) : Mi.Yard_is_free [.d d, .d (enc c)] = .ok (.bl ((decide (0 ≤ c.1) && decide (c.1 < h) && (decide (0 ≤ c.2) && decide (c.2 < w))) && !decide (c ∈ holes))) [] := by
  unfold Mi.Yard_is_free
  have o := on_board_gen d h w c e1 e2
  cases hb : (decide (0 ≤ c.1) && decide (c.1 < h) && (decide (0 ≤ c.2) && decide (c.2 < w))) with
  | true =>
    rw [hb] at o
    simp [e0, e3, o]
  | false =>
    rw [hb] at o
    simp [e0, o]
structure YIn (h w : Int) (holes : List Cell) (ks : List (Kd × Kind)) (g0 g1 : List Cell) (stuck : Str) : Prop where
  h1 : 1 ≤ h
  h5 : h ≤ 5
  w1 : 1 ≤ w
  w5 : w ≤ 5
  st : stuck = "lost" ∨ stuck = "drawn"
  rh : risingB ltE holes = true
  ob : ∀ c ∈ holes, (decide (0 ≤ c.1) && decide (c.1 < h) && (decide (0 ≤ c.2) && decide (c.2 < w))) = true
  k1 : 1 ≤ ks.length
  k6 : ks.length ≤ 6
  nd : (ks.map (·.1)).Nodup
  kk : ∀ p ∈ ks, okKind p.2 = true ∧ p.2.leaps.length ≤ 100 ∧ p.2.rides.length ≤ 100
  g : ∀ g, g = g0 ∨ g = g1 → risingB ltE g = true ∧ g.length ≤ 100 ∧ ∀ c ∈ g, ((decide (0 ≤ c.1) && decide (c.1 < h) && (decide (0 ≤ c.2) && decide (c.2 < w))) && !decide (c ∈ holes)) = true
  lh : holes.length ≤ 100
section
variable {h w : Int} {holes : List Cell} {ks : List (Kd × Kind)} {g0 g1 : List Cell} {stuck : Str}
def ye (h w : Int) (holes : List Cell) (ks : List (Kd × Kind)) (g0 g1 : List Cell) (stuck : Str) (self s7 s8 s9 s10 s11 : Sl) : DL.Env := [self, .d (.int h), .d (.int w), .d (.lst (holes.map enc)), .d (kindsD ks), .d (.tup [.lst (g0.map enc), .lst (g1.map enc)]), .d (.str stuck), s7, s8, s9, s10, s11, .no]
def y4 (h w : Int) (holes : List Cell) (stuck : Str) : D := .ins "Yard" ["height", "width", "holes", "stuck"] [.int h, .int w, .lst (holes.map enc), .str stuck]
theorem stuck_in (e : stuck = "lost" ∨ stuck = "drawn") : ninX (.str stuck) (.tup [.str "lost", .str "drawn"]) = some (.bl false) := by
  rcases e with rfl | rfl <;> kernel_rfl
theorem iniC_ye (d : D) (cn : Str) (ns : List Str) (ds : List D) (ed : d = .ins cn ns ds) (hd : noInsL ds = true) (s7 s8 s9 s10 s11 : Sl) (hs : ∀ s, s = s7 ∨ s = s8 ∨ s = s9 ∨ s = s10 ∨ s = s11 → s = .no ∨ ∃ d, s = .d d ∧ noIns d = true) : iniC (ye h w holes ks g0 g1 stuck (.d d) s7 s8 s9 s10 s11) = true := by
  subst ed
  rcases hs s7 (by simp) with rfl | ⟨d7, rfl, a7⟩ <;> rcases hs s8 (by simp) with rfl | ⟨d8, rfl, a8⟩ <;> rcases hs s9 (by simp) with rfl | ⟨d9, rfl, a9⟩ <;> rcases hs s10 (by simp) with rfl | ⟨d10, rfl, a10⟩ <;> rcases hs s11 (by simp) with rfl | ⟨d11, rfl, a11⟩ <;> simp [iniC, ye, plain, *]
theorem all_true {α : Type} {f : α → Bool} {xs : List α} (h : ∀ x ∈ xs, f x = true) : xs.all f = true := List.all_eq_true.mpr h
def y5 (h w : Int) (holes : List Cell) (stuck : Str) (g0 g1 : List Cell) : D := .ins "Yard" ["height", "width", "holes", "stuck", "goals"] [.int h, .int w, .lst (holes.map enc), .str stuck, .tup [.lst (g0.map enc), .lst (g1.map enc)]]
theorem c_holes (H : YIn h w holes ks g0 g1 stuck) (s7 : Sl) : compO (itemsGM (getM 3)) (tgN 12) (pureM true) (methD "Yard" "on_board" [false, false] Mi.Yard_on_board (getM 0) (consA (getM 12) (pureM []))) [12] (ye h w holes ks g0 g1 stuck (.d (y4 h w holes stuck)) .no .no .no .no .no) = .ok ((holes.map fun _ => true).map D.bl) (ye h w holes ks g0 g1 stuck (.d (y4 h w holes stuck)) .no .no .no .no .no) :=
  comp_map (e := enc) (e' := D.bl) holes (fun _ => true) (by simp [ye]) rfl (by rw [sizeLine_eq]; have := H.lh; omega) fun c hc => by
    have o := on_board_gen (y4 h w holes stuck) h w c (by with_unfolding_all rfl) (by with_unfolding_all rfl)
    rw [H.ob c hc] at o
    have e : isIns "Yard" "on_board" (y4 h w holes stuck) = true := by with_unfolding_all rfl
    refine ⟨(ye h w holes ks g0 g1 stuck (.d (y4 h w holes stuck)) .no .no .no .no .no).set 12 (.d (enc c)), rfl, rfl, rfl, (ye h w holes ks g0 g1 stuck (.d (y4 h w holes stuck)) .no .no .no .no .no).set 12 (.d (enc c)), ?_, rfl, rfl⟩
    simp [ye, o, e]
theorem c_goal (H : YIn h w holes ks g0 g1 stuck) (g : List Cell) (hg : g = g0 ∨ g = g1) : compO (itemsGM (getM 7)) (tgN 12) (pureM true) (methD "Yard" "is_free" [false, false] Mi.Yard_is_free (getM 0) (consA (getM 12) (pureM []))) [12] (ye h w holes ks g0 g1 stuck (.d (y4 h w holes stuck)) (.d (.lst (g.map enc))) .no .no .no .no) = .ok ((g.map fun _ => true).map D.bl) (ye h w holes ks g0 g1 stuck (.d (y4 h w holes stuck)) (.d (.lst (g.map enc))) .no .no .no .no) := by
  obtain ⟨r1, r2, r3⟩ := H.g g hg
  refine comp_map (e := enc) (e' := D.bl) g (fun _ => true) (by simp [ye]) rfl (by rw [sizeLine_eq]; omega) fun c hc => ?_
  have o := is_free_gen (y4 h w holes stuck) h w holes c (by with_unfolding_all rfl) (by with_unfolding_all rfl) (by with_unfolding_all rfl) (by with_unfolding_all rfl)
  rw [r3 c hc] at o
  have e : isIns "Yard" "is_free" (y4 h w holes stuck) = true := by with_unfolding_all rfl
  refine ⟨(ye h w holes ks g0 g1 stuck (.d (y4 h w holes stuck)) (.d (.lst (g.map enc))) .no .no .no .no).set 12 (.d (enc c)), rfl, rfl, rfl, (ye h w holes ks g0 g1 stuck (.d (y4 h w holes stuck)) (.d (.lst (g.map enc))) .no .no .no .no).set 12 (.d (enc c)), ?_, rfl, rfl⟩
  simp [ye, o, e]
theorem lookK_mem {ks : List (Kd × Kind)} (nd : (ks.map (·.1)).Nodup) {p : Kd × Kind} (hp : p ∈ ks) : lookK ks p.1 = some p.2 := by
  unfold lookK
  induction ks with
  | nil => cases hp
  | cons q ks ih =>
    rw [List.map_cons, List.nodup_cons] at nd
    rw [List.find?_cons]
    by_cases h : q.1 = p.1
    · simp only [h, decide_true]
      rcases List.mem_cons.mp hp with rfl | hp
      · rfl
      · exact absurd (List.mem_map.mpr ⟨p, hp, h.symm⟩) nd.1
    · simp only [h, decide_false]
      rcases List.mem_cons.mp hp with rfl | hp
      · exact absurd rfl h
      · exact ih nd.2 hp
theorem c_kinds (H : YIn h w holes ks g0 g1 stuck) : compO (itemsGM (getM 4)) (tgN 8) (pureM true) (callM Mi.is_kind (mdM [false, false] (consA (getM 8) (consA (op2 ixX (getM 4) (getM 8)) (pureM []))))) [8] (ye h w holes ks g0 g1 stuck (.d (y4 h w holes stuck)) .no .no .no .no .no) = .ok ((ks.map fun _ => true).map D.bl) (ye h w holes ks g0 g1 stuck (.d (y4 h w holes stuck)) .no .no .no .no .no) := by
  refine comp_map (e := fun p : Kd × Kind => enc p.1) (e' := D.bl) ks (fun _ => true) (by have a := allK_kd ks; simp [ye, kindsD, a]) rfl (by rw [sizeLine_eq]; have := H.k6; omega) fun p hp => ?_
  obtain ⟨k1, k2, k3⟩ := H.kk p hp
  have o := is_kind_ap p.1 p.2 k2 k3
  rw [k1] at o
  have e := ixX_kd ks p.1 p.2 (lookK_mem H.nd hp)
  refine ⟨(ye h w holes ks g0 g1 stuck (.d (y4 h w holes stuck)) .no .no .no .no .no).set 8 (.d (enc p.1)), rfl, rfl, rfl, (ye h w holes ks g0 g1 stuck (.d (y4 h w holes stuck)) .no .no .no .no .no).set 8 (.d (enc p.1)), ?_, rfl, rfl⟩
  simp [ye, o, e]
theorem strsOf_kd : ∀ L : List Kd, strsOf (L.map enc) = some (L.map kdS)
  | [] => rfl
  | k :: L => by
    have ih := strsOf_kd L
    show (strsOf (enc k :: L.map enc)) = _
    have e : (enc k : D) = .str (kdS k) := rfl
    rw [e]
    simp only [strsOf, ih, List.map_cons]
    rfl
theorem sortG_kd (hl : ks.length < 64) : sortG [kindsD ks] = some ((srtE (ks.map (·.1))).map enc) := by
  have e : ks.map (fun p => enc p.1) = (ks.map (·.1)).map enc := by rw [List.map_map]; rfl
  have h : sortK [kindsD ks] = some ((srtE (ks.map (·.1))).map enc) := by
    unfold kindsD
    rw [e]
    show (strsOf _).bind _ = _
    rw [strsOf_kd, Option.bind_some, srtD_enc, if_pos (by simpa using hl)]
  show (sortL [kindsD ks]).or (sortK [kindsD ks]) = _
  rw [h]; rfl
def getK (ks : List (Kd × Kind)) (k : Kd) : Kind := (lookK ks k).getD ⟨[], [], 0⟩
def isNI (s : Sl) : Prop := s = .no ∨ ∃ d, s = .d d ∧ noIns d = true
theorem kC_ye (s7 s8 s9 s10 s11 : Sl) (h7 : isNI s7) (h8 : isNI s8) (h9 : isNI s9) (h10 : isNI s10) (h11 : isNI s11) : kC (ye h w holes ks g0 g1 stuck .no s7 s8 s9 s10 s11) = true := by
  rcases h7 with rfl | ⟨d7, rfl, a7⟩ <;> rcases h8 with rfl | ⟨d8, rfl, a8⟩ <;> rcases h9 with rfl | ⟨d9, rfl, a9⟩ <;> rcases h10 with rfl | ⟨d10, rfl, a10⟩ <;> rcases h11 with rfl | ⟨d11, rfl, a11⟩ <;> rfl
theorem ni_d {d : D} (h : noIns d = true) : isNI (.d d) := .inr ⟨d, rfl, h⟩
theorem kin_go (s7 : Sl) (h7 : isNI s7) : ∀ (L : List Kd) (acc : List Kd) (s8 s9 s10 s11 : Sl), isNI s8 → isNI s9 → isNI s10 → isNI s11 → (∀ k ∈ L, (lookK ks k).isSome = true) → (acc ++ L).Nodup → (acc ++ L).length < 1000 →
    ∃ t8 t9 t10 t11, isNI t8 ∧ isNI t9 ∧ isNI t10 ∧ isNI t11 ∧ kinGo 8 (tgU 3 (tgs1 (tgN 9) (tgs1 (tgN 10) (tgs1 (tgN 11) (tgs0))))) (op2 ixX (getM 4) (getM 8)) (getM 8) (tupM (consM (lstM (callO listCD (consM (getM 9) (pureM [])))) (consM (lstM (callO listCD (consM (getM 10) (pureM [])))) (consM (getM 11) (pureM []))))) (L.map enc) (acc.map fun k => (enc k, encK (getK ks k))) (ye h w holes ks g0 g1 stuck .no s7 s8 s9 s10 s11)
      = .ok ((acc ++ L).map fun k => (enc k, encK (getK ks k))) (ye h w holes ks g0 g1 stuck .no s7 t8 t9 t10 t11)
  | [], acc, s8, s9, s10, s11, h8, h9, h10, h11, _, _, _ => ⟨s8, s9, s10, s11, h8, h9, h10, h11, by rw [List.append_nil]; rfl⟩
  | k :: L, acc, s8, s9, s10, s11, h8, h9, h10, h11, hL, nd, hl => by
    obtain ⟨K, hK⟩ := Option.isSome_iff_exists.mp (hL k (by simp))
    have gk : getK ks k = K := by simp [getK, hK]
    have ex := ixX_kd ks k K hK
    have z8 : isNI (.d (enc k)) := ni_d (noIns_enc k)
    have z9 : isNI (.d (.lst (K.leaps.map enc))) := ni_d (by simp)
    have z10 : isNI (.d (.lst (K.rides.map enc))) := ni_d (by simp)
    have z11 : isNI (.d (.int K.crown)) := ni_d rfl
    obtain ⟨t8, t9, t10, t11, u8, u9, u10, u11, ih⟩ := kin_go s7 h7 L (acc ++ [k]) (.d (enc k)) (.d (.lst (K.leaps.map enc))) (.d (.lst (K.rides.map enc))) (.d (.int K.crown)) z8 z9 z10 z11 (fun k' hk => hL k' (by simp [hk])) (by simpa using nd) (by simpa using hl)
    refine ⟨t8, t9, t10, t11, u8, u9, u10, u11, ?_⟩
    have e : acc ++ [k] ++ L = acc ++ k :: L := by simp
    rw [e] at ih
    rw [← ih]
    have c0 := kC_ye (h := h) (w := w) (holes := holes) (ks := ks) (g0 := g0) (g1 := g1) (stuck := stuck) s7 (.d (enc k)) s9 s10 s11 h7 z8 h9 h10 h11
    have c1 := kC_ye (h := h) (w := w) (holes := holes) (ks := ks) (g0 := g0) (g1 := g1) (stuck := stuck) s7 (.d (enc k)) (.d (.lst (K.leaps.map enc))) (.d (.lst (K.rides.map enc))) (.d (.int K.crown)) h7 z8 z9 z10 z11
    have f1 : op2 ixX (getM 4) (getM 8) (ye h w holes ks g0 g1 stuck .no s7 (.d (enc k)) s9 s10 s11) = .ok (encK K) (ye h w holes ks g0 g1 stuck .no s7 (.d (enc k)) s9 s10 s11) := by simp [ye, ex]
    have f2 : tupM (consM (lstM (callO listCD (consM (getM 9) (pureM [])))) (consM (lstM (callO listCD (consM (getM 10) (pureM [])))) (consM (getM 11) (pureM [])))) (ye h w holes ks g0 g1 stuck .no s7 (.d (enc k)) (.d (.lst (K.leaps.map enc))) (.d (.lst (K.rides.map enc))) (.d (.int K.crown))) = .ok (encK K) (ye h w holes ks g0 g1 stuck .no s7 (.d (enc k)) (.d (.lst (K.leaps.map enc))) (.d (.lst (K.rides.map enc))) (.d (.int K.crown))) := by simp [ye, encK]
    have ft : tgU 3 (tgs1 (tgN 9) (tgs1 (tgN 10) (tgs1 (tgN 11) (tgs0)))) (encK K) (ye h w holes ks g0 g1 stuck .no s7 (.d (enc k)) s9 s10 s11) = some (ye h w holes ks g0 g1 stuck .no s7 (.d (enc k)) (.d (.lst (K.leaps.map enc))) (.d (.lst (K.rides.map enc))) (.d (.int K.crown))) := rfl
    have fk : getM 8 (ye h w holes ks g0 g1 stuck .no s7 (.d (enc k)) (.d (.lst (K.leaps.map enc))) (.d (.lst (K.rides.map enc))) (.d (.int K.crown))) = .ok (enc k) (ye h w holes ks g0 g1 stuck .no s7 (.d (enc k)) (.d (.lst (K.leaps.map enc))) (.d (.lst (K.rides.map enc))) (.d (.int K.crown))) := rfl
    have hn : k ∉ acc := by
      intro z
      have := (List.nodup_append.mp nd).2.2 k z k (by simp)
      exact this rfl
    have ck : isK (enc k) = true ∧ ((acc.map fun k => ((enc k : D), encK (getK ks k))).all fun q => !sameK (enc k) q.1) = true ∧ (acc.map fun k => ((enc k : D), encK (getK ks k))).length < 1000 := by
      refine ⟨isK_kd k, ?_, by rw [List.length_map]; rw [List.length_append] at hl; omega⟩
      rw [List.all_eq_true]
      intro q hq
      obtain ⟨a, ha, rfl⟩ := List.mem_map.mp hq
      show (!sameK (enc k) (enc a)) = true
      rw [sameK_kd]
      have : k ≠ a := fun z => hn (z ▸ ha)
      simp [this]
    show (if kC ((ye h w holes ks g0 g1 stuck .no s7 s8 s9 s10 s11).set 8 (.d (enc k))) = true then bindM (kinBody _ _ _ _ _) _ ((ye h w holes ks g0 g1 stuck .no s7 s8 s9 s10 s11).set 8 (.d (enc k))) else .stuck) = _
    have es : (ye h w holes ks g0 g1 stuck .no s7 s8 s9 s10 s11).set 8 (.d (enc k)) = ye h w holes ks g0 g1 stuck .no s7 (.d (enc k)) s9 s10 s11 := rfl
    rw [es, if_pos c0, bindM_ap]
    have kb : kinBody (tgU 3 (tgs1 (tgN 9) (tgs1 (tgN 10) (tgs1 (tgN 11) (tgs0))))) (op2 ixX (getM 4) (getM 8)) (getM 8) (tupM (consM (lstM (callO listCD (consM (getM 9) (pureM [])))) (consM (lstM (callO listCD (consM (getM 10) (pureM [])))) (consM (getM 11) (pureM []))))) (acc.map fun k => (enc k, encK (getK ks k))) (ye h w holes ks g0 g1 stuck .no s7 (.d (enc k)) s9 s10 s11) = .ok ((acc ++ [k]).map fun k => (enc k, encK (getK ks k))) (ye h w holes ks g0 g1 stuck .no s7 (.d (enc k)) (.d (.lst (K.leaps.map enc))) (.d (.lst (K.rides.map enc))) (.d (.int K.crown))) := by
      unfold kinBody kStep
      simp only [f1, ft, c0, c1, if_true, f2, fk]
      rw [if_pos ck]
      simp [gk]
    rw [kb]
end
end DL
end
section
namespace DL
open PySem PySem.Spec L2 DLS
open PyProof.Rows hiding St
section
variable {h w : Int} {holes : List Cell} {ks : List (Kd × Kind)} {g0 g1 : List Cell} {stuck : Str}
def ordK (ks : List (Kd × Kind)) : List (Kd × Kind) := (srtE (ks.map (·.1))).map fun k => (k, getK ks k)
def mkY (h w : Int) (holes : List Cell) (ks : List (Kd × Kind)) (g0 g1 : List Cell) (stuck : Str) : Yd := ⟨h, w, holes, stuck, g0, g1, ordK ks⟩
theorem ni_no : isNI .no := .inl rfl
theorem iniC_y (d : D) (cn : Str) (ns : List Str) (ds : List D) (ed : d = .ins cn ns ds) (hd : noInsL ds = true) (s7 s8 s9 s10 s11 : Sl) (h7 : isNI s7) (h8 : isNI s8) (h9 : isNI s9) (h10 : isNI s10) (h11 : isNI s11) : iniC (ye h w holes ks g0 g1 stuck (.d d) s7 s8 s9 s10 s11) = true :=
  iniC_ye d cn ns ds ed hd s7 s8 s9 s10 s11 fun s hs => by
    rcases hs with rfl | rfl | rfl | rfl | rfl <;> assumption
abbrev yn (h w : Int) (holes : List Cell) (ks : List (Kd × Kind)) (g0 g1 : List Cell) (stuck : Str) (d : D) (s7 : Sl) : DL.Env := ye h w holes ks g0 g1 stuck (.d d) s7 .no .no .no .no
theorem iniC_n (d : D) (cn : Str) (ns : List Str) (ds : List D) (ed : d = .ins cn ns ds) (hd : noInsL ds = true) (s7 : Sl) (h7 : isNI s7) : iniC (yn h w holes ks g0 g1 stuck d s7) = true := iniC_y d cn ns ds ed hd s7 .no .no .no .no h7 ni_no ni_no ni_no ni_no
theorem set_f (f : Str) (fe : M D) (d v d2 : D) (ns : List Str) (ds : List D) (ed : d = .ins "Yard" ns ds) (e2 : d2 = .ins "Yard" (ns ++ [f]) (ds ++ [v])) (hd : noInsL ds = true) (hf : f ∉ ns) (hv : noIns v = true) (hl : ns.length < 1000) (s7 : Sl) (h7 : isNI s7) (he : fe (yn h w holes ks g0 g1 stuck d s7) = .ok v (yn h w holes ks g0 g1 stuck d s7)) : setFM "Yard" f fe (yn h w holes ks g0 g1 stuck d s7) = .ok .nx (yn h w holes ks g0 g1 stuck d2 s7) := by
  rw [setFM_ap, he]
  have c := iniC_n (h := h) (w := w) (holes := holes) (ks := ks) (g0 := g0) (g1 := g1) (stuck := stuck) d "Yard" ns ds ed hd s7 h7
  simp only [c, if_true]
  subst ed e2
  show (if (("Yard" : Str) = ("Yard" : Str)) ∧ f ∉ ns ∧ noIns v = true ∧ ns.length < 1000 then _ else _) = _
  rw [if_pos ⟨rfl, hf, hv, hl⟩]
  rfl
theorem no_raise (f : M Bool) (e : Str) (d : D) (ns : List Str) (ds : List D) (ed : d = .ins "Yard" ns ds) (hd : noInsL ds = true) (s7 : Sl) (h7 : isNI s7) (hf : f (yn h w holes ks g0 g1 stuck d s7) = .ok false (yn h w holes ks g0 g1 stuck d s7)) : ifRaise f e (yn h w holes ks g0 g1 stuck d s7) = .ok .nx (yn h w holes ks g0 g1 stuck d s7) := by
  rw [ifRaise_ap, hf]
  have c := iniC_n (h := h) (w := w) (holes := holes) (ks := ks) (g0 := g0) (g1 := g1) (stuck := stuck) d "Yard" ns ds ed hd s7 h7
  simp only [c, if_true]
  rfl
theorem all_tr {α : Type} (xs : List α) : allD [.lst ((xs.map fun _ => true).map D.bl)] = some (.bl true) := by
  rw [List.map_map]
  refine (allD_bl (fun _ => true) xs).trans ?_
  rw [all_true fun _ _ => rfl]
theorem ini_ap (H : YIn h w holes ks g0 g1 stuck) : iniF 13 "Yard" Mi.Yard_ini [.int h, .int w, .lst (holes.map enc), kindsD ks, .tup [.lst (g0.map enc), .lst (g1.map enc)], .str stuck] = .ok (encY (mkY h w holes ks g0 g1 stuck)) [] := by
  have fin : ∃ t8 t9 t10 t11 s7, isNI t8 ∧ isNI t9 ∧ isNI t10 ∧ isNI t11 ∧ isNI s7 ∧ Mi.Yard_ini (yn h w holes ks g0 g1 stuck (.ins "Yard" [] []) .no) = .ok .nx (ye h w holes ks g0 g1 stuck (.d (encY (mkY h w holes ks g0 g1 stuck))) s7 t8 t9 t10 t11) := by
    have sti := stuck_in H.st
    have i0 : noInsL ([] : List D) = true := rfl
    have hh := H.h1; have hh5 := H.h5; have hw := H.w1; have hw5 := H.w5
    have s0 : ∀ e, ifRaise (orM (notM (boolM (chainM leA leA (pureM (.int 1)) (getM 1) (pureM (.int 5))))) (orM (notM (boolM (chainM leA leA (pureM (.int 1)) (getM 2) (pureM (.int 5))))) (boolM (op2 ninX (getM 6) (tupM (consM (pureM (.str "lost")) (consM (pureM (.str "drawn")) (pureM [])))))))) e (yn h w holes ks g0 g1 stuck (.ins "Yard" [] []) .no) = .ok .nx (yn h w holes ks g0 g1 stuck (.ins "Yard" [] []) .no) := fun e =>
      no_raise _ e (.ins "Yard" [] []) [] [] rfl rfl .no ni_no (by simp [ye, sti, H.h1, H.h5, H.w1, H.w5])
    have s1 := set_f (h := h) (w := w) (holes := holes) (ks := ks) (g0 := g0) (g1 := g1) (stuck := stuck) "height" (getM 1) (.ins "Yard" [] []) (.int h) (.ins "Yard" ["height"] [.int h]) [] [] rfl rfl rfl (by decide) rfl (by decide) .no ni_no rfl
    have s2 := set_f (h := h) (w := w) (holes := holes) (ks := ks) (g0 := g0) (g1 := g1) (stuck := stuck) "width" (getM 2) (.ins "Yard" ["height"] [.int h]) (.int w) (.ins "Yard" ["height", "width"] [.int h, .int w]) _ _ rfl rfl rfl (by decide) rfl (by decide) .no ni_no rfl
    have s3 := set_f (h := h) (w := w) (holes := holes) (ks := ks) (g0 := g0) (g1 := g1) (stuck := stuck) "holes" (lstM (callO listCD (consM (getM 3) (pureM [])))) (.ins "Yard" ["height", "width"] [.int h, .int w]) (.lst (holes.map enc)) (.ins "Yard" ["height", "width", "holes"] [.int h, .int w, .lst (holes.map enc)]) _ _ rfl rfl rfl (by decide) (by simp) (by decide) .no ni_no (by simp [ye])
    have s4 := set_f (h := h) (w := w) (holes := holes) (ks := ks) (g0 := g0) (g1 := g1) (stuck := stuck) "stuck" (getM 6) (.ins "Yard" ["height", "width", "holes"] [.int h, .int w, .lst (holes.map enc)]) (.str stuck) (y4 h w holes stuck) _ _ rfl rfl (by simp) (by decide) rfl (by decide) .no ni_no rfl
    have n4 : noInsL ([.int h, .int w, .lst (holes.map enc), .str stuck] : List D) = true := by simp
    have r5 := rising_ap holes (by have := H.lh; omega)
    rw [H.rh] at r5
    have c5 := c_holes H .no
    have g0' : (yn h w holes ks g0 g1 stuck (y4 h w holes stuck) .no)[3]? = some (.d (.lst (holes.map enc))) := rfl
    have s5 : ∀ e, ifRaise (orM (notM (boolM (callM Mi.rising (mdM [false] (consA (getM 3) (pureM [])))))) (notM (boolM (callD allD (consM (lstM (compO (itemsGM (getM 3)) (tgN 12) (pureM true) (methD "Yard" "on_board" [false, false] Mi.Yard_on_board (getM 0) (consA (getM 12) (pureM []))) [12])) (pureM [])))))) e (yn h w holes ks g0 g1 stuck (y4 h w holes stuck) .no) = .ok .nx (yn h w holes ks g0 g1 stuck (y4 h w holes stuck) .no) := fun e => by
      refine no_raise _ e (y4 h w holes stuck) _ _ rfl n4 .no ni_no ?_
      have a := all_tr holes
      obtain ⟨env, he⟩ : ∃ env : DL.Env, env = yn h w holes ks g0 g1 stuck (y4 h w holes stuck) .no := ⟨_, rfl⟩
      rw [show ye h w holes ks g0 g1 stuck (.d (y4 h w holes stuck)) .no .no .no .no .no = env from he.symm] at c5
      rw [← he]
      rw [← he] at g0'
      generalize (holes.map fun _ => true).map D.bl = L at c5 a
      simp [g0', r5, c5, a]
    have c6 := c_kinds H
    have l6 : lenG [kindsD ks] = some (.int ks.length) := by
      have a := allK_kd ks
      show lenG [.dic _ _] = _
      rw [lenG_dic _ _ a, List.length_map]
    have s6 : ∀ e, ifRaise (orM (notM (boolM (chainM leA leA (pureM (.int 1)) (callD lenG (consM (getM 4) (pureM []))) (pureM (.int 6))))) (notM (boolM (callD allD (consM (lstM (compO (itemsGM (getM 4)) (tgN 8) (pureM true) (callM Mi.is_kind (mdM [false, false] (consA (getM 8) (consA (op2 ixX (getM 4) (getM 8)) (pureM []))))) [8])) (pureM [])))))) e (yn h w holes ks g0 g1 stuck (y4 h w holes stuck) .no) = .ok .nx (yn h w holes ks g0 g1 stuck (y4 h w holes stuck) .no) := fun e => by
      refine no_raise _ e (y4 h w holes stuck) _ _ rfl n4 .no ni_no ?_
      have a := all_tr ks
      have k1 := H.k1; have k6 := H.k6
      have k1' : (1 : Int) ≤ (ks.length : Int) := by omega
      have k6' : (ks.length : Int) ≤ 6 := by omega
      have g4 : (yn h w holes ks g0 g1 stuck (y4 h w holes stuck) .no)[4]? = some (.d (kindsD ks)) := rfl
      obtain ⟨env, he⟩ : ∃ env : DL.Env, env = yn h w holes ks g0 g1 stuck (y4 h w holes stuck) .no := ⟨_, rfl⟩
      rw [show ye h w holes ks g0 g1 stuck (.d (y4 h w holes stuck)) .no .no .no .no .no = env from he.symm] at c6
      rw [← he]
      rw [← he] at g4
      generalize (ks.map fun _ => true).map D.bl = L at c6 a
      simp [g4, l6, k1', k6', c6, a]
    have st7 : ∀ (g : List Cell) (hg : g = g0 ∨ g = g1) (e : Str), ifRaise (orM (notM (boolM (callM Mi.rising (mdM [false] (consA (getM 7) (pureM [])))))) (notM (boolM (callD allD (consM (lstM (compO (itemsGM (getM 7)) (tgN 12) (pureM true) (methD "Yard" "is_free" [false, false] Mi.Yard_is_free (getM 0) (consA (getM 12) (pureM []))) [12])) (pureM [])))))) e (yn h w holes ks g0 g1 stuck (y4 h w holes stuck) (.d (.lst (g.map enc)))) = .ok .nx (yn h w holes ks g0 g1 stuck (y4 h w holes stuck) (.d (.lst (g.map enc)))) := fun g hg e => by
      refine no_raise _ e (y4 h w holes stuck) _ _ rfl n4 _ (ni_d (by simp)) ?_
      have a := all_tr g
      have r := rising_ap g (by have := (H.g g hg).2.1; omega)
      rw [(H.g g hg).1] at r
      have c := c_goal H g hg
      have g7 : (yn h w holes ks g0 g1 stuck (y4 h w holes stuck) (.d (.lst (g.map enc))))[7]? = some (.d (.lst (g.map enc))) := rfl
      obtain ⟨env, he⟩ : ∃ env : DL.Env, env = yn h w holes ks g0 g1 stuck (y4 h w holes stuck) (.d (.lst (g.map enc))) := ⟨_, rfl⟩
      rw [show ye h w holes ks g0 g1 stuck (.d (y4 h w holes stuck)) (.d (.lst (g.map enc))) .no .no .no .no = env from he.symm] at c
      rw [← he]
      rw [← he] at g7
      generalize (g.map fun _ => true).map D.bl = L at c a
      simp [g7, r, c, a]
    have i7 : ∀ s7, isNI s7 → iniC (yn h w holes ks g0 g1 stuck (y4 h w holes stuck) s7) = true := fun s7 h7 => iniC_n (y4 h w holes stuck) "Yard" _ _ rfl n4 s7 h7
    have s7 : ∀ e, forIfM 7 (itemsGM (getM 5)) (orM (notM (boolM (callM Mi.rising (mdM [false] (consA (getM 7) (pureM [])))))) (notM (boolM (callD allD (consM (lstM (compO (itemsGM (getM 7)) (tgN 12) (pureM true) (methD "Yard" "is_free" [false, false] Mi.Yard_is_free (getM 0) (consA (getM 12) (pureM []))) [12])) (pureM [])))))) e (yn h w holes ks g0 g1 stuck (y4 h w holes stuck) .no) = .ok .nx (yn h w holes ks g0 g1 stuck (y4 h w holes stuck) (.d (.lst (g1.map enc)))) := fun e => by
      rw [forIfM_ap]
      have e5 : itemsGM (getM 5) (yn h w holes ks g0 g1 stuck (y4 h w holes stuck) .no) = .ok [.lst (g0.map enc), .lst (g1.map enc)] (yn h w holes ks g0 g1 stuck (y4 h w holes stuck) .no) := rfl
      rw [e5]
      simp only [i7 .no ni_no, if_true]
      have n0 : noIns (.lst (g0.map enc)) = true := by simp
      have n1 : noIns (.lst (g1.map enc)) = true := by simp
      unfold forIfGo
      rw [if_pos n0]
      have x0 : (yn h w holes ks g0 g1 stuck (y4 h w holes stuck) .no).set 7 (.d (.lst (g0.map enc))) = yn h w holes ks g0 g1 stuck (y4 h w holes stuck) (.d (.lst (g0.map enc))) := rfl
      rw [x0, st7 g0 (.inl rfl) e]
      dsimp only
      unfold forIfGo
      rw [if_pos n1]
      have x1 : (yn h w holes ks g0 g1 stuck (y4 h w holes stuck) (.d (.lst (g0.map enc)))).set 7 (.d (.lst (g1.map enc))) = yn h w holes ks g0 g1 stuck (y4 h w holes stuck) (.d (.lst (g1.map enc))) := rfl
      rw [x1, st7 g1 (.inr rfl) e]
      rfl
    have z7 : isNI (.d (.lst (g1.map enc))) := ni_d (by simp)
    have s8 := set_f (h := h) (w := w) (holes := holes) (ks := ks) (g0 := g0) (g1 := g1) (stuck := stuck) "goals" (tupM (consM (lstM (callO listCD (consM (op2 ixX (getM 5) (pureM (.int 0))) (pureM [])))) (consM (lstM (callO listCD (consM (op2 ixX (getM 5) (pureM (.int 1))) (pureM [])))) (pureM [])))) (y4 h w holes stuck) (.tup [.lst (g0.map enc), .lst (g1.map enc)]) (y5 h w holes stuck g0 g1) _ _ rfl rfl n4 (by decide) (by simp) (by decide) (.d (.lst (g1.map enc))) z7 (by
      have e0 : ixX (.tup [.lst (g0.map enc), .lst (g1.map enc)]) (.int 0) = some (.lst (g0.map enc)) := rfl
      have e1 : ixX (.tup [.lst (g0.map enc), .lst (g1.map enc)]) (.int 1) = some (.lst (g1.map enc)) := rfl
      simp [ye, e0, e1])
    have n5 : noInsL ([.int h, .int w, .lst (holes.map enc), .str stuck, .tup [.lst (g0.map enc), .lst (g1.map enc)]] : List D) = true := by simp
    have nds : (srtE (ks.map (·.1))).Nodup := (srtE_perm _).nodup_iff.mpr H.nd
    have lks : (srtE (ks.map (·.1))).length = ks.length := by rw [(srtE_perm _).length_eq, List.length_map]
    obtain ⟨t8, t9, t10, t11, u8, u9, u10, u11, kg⟩ := kin_go (h := h) (w := w) (holes := holes) (ks := ks) (g0 := g0) (g1 := g1) (stuck := stuck) (.d (.lst (g1.map enc))) z7 (srtE (ks.map (·.1))) [] .no .no .no .no ni_no ni_no ni_no ni_no (fun k hk => by
      obtain ⟨p, hp, rfl⟩ := List.mem_map.mp (mem_srtE.mp hk)
      rw [lookK_mem H.nd hp]; rfl) (by simpa using nds) (by have := H.k6; rw [List.nil_append, lks]; omega)
    rw [List.nil_append] at kg
    refine ⟨t8, t9, t10, t11, .d (.lst (g1.map enc)), u8, u9, u10, u11, z7, ?_⟩
    unfold Mi.Yard_ini
    refine (seq_nx (s0 _)).trans ((seq_nx s1).trans ((seq_nx s2).trans ((seq_nx s3).trans ((seq_nx s4).trans ((seq_nx (s5 _)).trans ((seq_nx (s6 _)).trans ((seq_nx (s7 _)).trans ((seq_nx s8).trans ?_))))))))
    unfold kinM
    have q0 : (yn h w holes ks g0 g1 stuck (y5 h w holes stuck g0 g1) (.d (.lst (g1.map enc))))[0]? = some (.d (y5 h w holes stuck g0 g1)) := rfl
    rw [q0]
    have qs : (yn h w holes ks g0 g1 stuck (y5 h w holes stuck g0 g1) (.d (.lst (g1.map enc)))).set 0 .no = ye h w holes ks g0 g1 stuck .no (.d (.lst (g1.map enc))) .no .no .no .no := rfl
    show (if (("Yard" : Str) = ("Yard" : Str)) ∧ ("kinds" : Str) ∉ (["height", "width", "holes", "stuck", "goals"] : List Str) ∧ (["height", "width", "holes", "stuck", "goals"] : List Str).length < 1000 ∧ kC ((yn h w holes ks g0 g1 stuck (y5 h w holes stuck g0 g1) (.d (.lst (g1.map enc)))).set 0 .no) = true then _ else _) = _
    have kc := kC_ye (h := h) (w := w) (holes := holes) (ks := ks) (g0 := g0) (g1 := g1) (stuck := stuck) (.d (.lst (g1.map enc))) .no .no .no .no z7 ni_no ni_no ni_no ni_no
    rw [if_pos ⟨rfl, by decide, by decide, by rw [qs]; exact kc⟩, qs]
    have it : itemsGM (lstM (callO sortG (consM (getM 4) (pureM [])))) (ye h w holes ks g0 g1 stuck .no (.d (.lst (g1.map enc))) .no .no .no .no) = .ok ((srtE (ks.map (·.1))).map enc) (ye h w holes ks g0 g1 stuck .no (.d (.lst (g1.map enc))) .no .no .no .no) := by
      have := sortG_kd (ks := ks) (by have := H.k6; omega)
      simp [ye, this]
    unfold kStep
    rw [it]
    simp only [kc, if_true]
    rw [show ([] : List (D × D)) = ([] : List Kd).map (fun k => (enc k, encK (getK ks k))) from rfl, kg]
    unfold kinEnd
    have ed : (dicOf ((srtE (ks.map (·.1))).map fun k => ((enc k : D), encK (getK ks k)))) = kindsD (ordK ks) := by
      unfold dicOf kindsD ordK
      simp only [List.map_map]; rfl
    dsimp only
    rw [ed]
    have ny : noInsL ([.int h, .int w, .lst (holes.map enc), .str stuck, .tup [.lst (g0.map enc), .lst (g1.map enc)]] ++ [kindsD (ordK ks)] : List D) = true := by simp
    have ic := iniC_y (h := h) (w := w) (holes := holes) (ks := ks) (g0 := g0) (g1 := g1) (stuck := stuck) (encY (mkY h w holes ks g0 g1 stuck)) "Yard" _ _ rfl ny (.d (.lst (g1.map enc))) t8 t9 t10 t11 z7 u8 u9 u10 u11
    refine (if_pos ⟨ic, by simp [ye]⟩).trans ?_
    rfl
  obtain ⟨t8, t9, t10, t11, s7, _, _, _, _, _, e⟩ := fin
  unfold iniF
  have e0 : iniE 13 "Yard" [.int h, .int w, .lst (holes.map enc), kindsD ks, .tup [.lst (g0.map enc), .lst (g1.map enc)], .str stuck] = yn h w holes ks g0 g1 stuck (.ins "Yard" [] []) .no := rfl
  rw [e0, e]
  rfl
end
end DL
end
section
namespace DL
open PySem PySem.Spec L2 DLS
open PyProof.Rows hiding St
theorem rg1_nat (n : Nat) (h : n ≤ 1000000) : rg1 [.int n] = some ((List.range n).map fun (i : Nat) => D.int (0 + (i : Int))) := by
  have h2 := inRg_nat n h
  have e : ((n : Int)).toNat = n := by omega
  simp only [rg1, h2, if_true, e]
/-! ### rising lists -/
theorem risingB_of {α : Type} {lt : α → α → Bool} : ∀ {xs : List α}, xs.Pairwise (fun a b => lt a b = true) → risingB lt xs = true
  | [], _ => rfl
  | [a], _ => rfl
  | a :: b :: l, h => by
    rw [List.pairwise_cons] at h
    simp only [risingB, h.1 b (by simp), Bool.true_and]
    exact risingB_of h.2
section
variable {α : Type} [Kl α]
theorem ltE_of {a b : α} (h : leE a b = true) (n : a ≠ b) : ltE a b = true := by
  cases c : ltE a b with
  | true => rfl
  | false =>
    have : leE b a = true := by rw [leE_lt, c]; rfl
    exact absurd (leE_anti h this) n
theorem lt_le {a b : α} (h : ltE a b = true) : leE a b = true := by
  rcases leE_total.total a b with h1 | h1
  · exact h1
  · rw [leE_lt, h] at h1; cases h1
theorem lt_ne {a b : α} (h : ltE a b = true) : a ≠ b := by
  rintro rfl
  have := leE_total.total a a
  rw [leE_lt, h] at this
  rcases this with h | h <;> cases h
theorem lt_tr {a b c : α} (h1 : ltE a b = true) (h2 : ltE b c = true) : ltE a c = true := by
  refine ltE_of (leE_total.trans _ _ _ (lt_le h1) (lt_le h2)) ?_
  rintro rfl
  exact lt_ne h1 (leE_anti (lt_le h1) (lt_le h2))
theorem pw_lt {xs : List α} (h1 : xs.Pairwise fun a b => leE a b = true) (h2 : xs.Nodup) : xs.Pairwise fun a b => ltE a b = true := by
  induction xs with
  | nil => exact .nil
  | cons a xs ih =>
    rw [List.pairwise_cons] at h1 ⊢
    rw [List.nodup_cons] at h2
    exact ⟨fun b hb => ltE_of (h1.1 b hb) fun z => h2.1 (z ▸ hb), ih h1.2 h2.2⟩
theorem rising_sset {α : Type} [Ki α] [DecidableEq α] (xs : List α) : risingB ltE (ssetE xs) = true := risingB_of (pw_lt (ssetE_sorted xs) (ssetE_nodup xs))
theorem rising_pwE : ∀ {xs : List α}, risingB ltE xs = true → xs.Pairwise fun a b => ltE a b = true
  | [], _ => .nil
  | [a], _ => by simp
  | a :: b :: l, h => by
    simp only [risingB, Bool.and_eq_true] at h
    have ih := rising_pwE h.2
    refine List.pairwise_cons.mpr ⟨fun c hc => ?_, ih⟩
    rcases List.mem_cons.mp hc with rfl | hc
    · exact h.1
    · exact lt_tr h.1 ((List.pairwise_cons.mp ih).1 c hc)
theorem rising_nodup {xs : List α} (h : risingB ltE xs = true) : xs.Nodup := (rising_pwE h).imp lt_ne
theorem pw_sub {xs ys : List α} (h : risingB ltE xs = true) (s : ys.Sublist xs) : risingB ltE ys = true := risingB_of ((rising_pwE h).sublist s)
theorem nubE_len {α : Type} [Ki α] [DecidableEq α] (xs : List α) : ∀ seen, (nubE seen xs).length ≤ xs.length := by
  induction xs with
  | nil => intro s; exact Nat.le_refl _
  | cons x xs ih =>
    intro s
    unfold nubE
    split
    · exact Nat.le_succ_of_le (ih _)
    · exact Nat.succ_le_succ (ih _)
end
/-- steps as they are drawn -/
theorem cutL_map {α : Type} (f : α → D) (xs : List α) (lo hi : Option Int) : cutL (xs.map f) lo hi = (cutL xs lo hi).map f := by
  unfold cutL
  rw [List.length_map, ← List.map_drop, ← List.map_take]
theorem cutL_sub {α : Type} (xs : List α) (lo hi : Option Int) : (cutL xs lo hi).Sublist xs := by
  unfold cutL
  exact (List.take_sublist _ _).trans (List.drop_sublist _ _)
theorem small_le {n : Nat} (h : n ≤ 1000) : n ≤ sizeLine := by rw [sizeLine_eq]; exact Nat.le_trans h (by decide)
def rowL (w r : Nat) : List Cell := (List.range w).map fun (c : Nat) => (((r : Int), (c : Int)) : Cell)
def boardN (h w : Nat) : List Cell := (List.range h).flatMap (rowL w)
theorem boardN_succ (h w : Nat) : boardN (h + 1) w = boardN h w ++ rowL w h := by
  unfold boardN
  rw [List.range_succ, List.flatMap_append]
  simp
theorem boardN_len (h w : Nat) : (boardN h w).length = h * w := by
  induction h with
  | zero => simp [boardN]
  | succ h ih => rw [boardN_succ, List.length_append, ih, Nat.succ_mul]; simp [rowL]
theorem mem_board {h w : Nat} {c : Cell} : c ∈ boardN h w ↔ (0 ≤ c.1 ∧ c.1 < h) ∧ (0 ≤ c.2 ∧ c.2 < w) := by
  unfold boardN rowL
  rw [List.mem_flatMap]
  constructor
  · rintro ⟨r, hr, hc⟩
    obtain ⟨d, hd, rfl⟩ := List.mem_map.mp hc
    have := List.mem_range.mp hr
    have := List.mem_range.mp hd
    dsimp only
    omega
  · rintro ⟨⟨a, b⟩, c1, d⟩
    obtain ⟨x, y⟩ := c
    dsimp only at a b c1 d
    refine ⟨x.toNat, List.mem_range.mpr (by omega), List.mem_map.mpr ⟨y.toNat, List.mem_range.mpr (by omega), ?_⟩⟩
    rw [Int.toNat_of_nonneg a, Int.toNat_of_nonneg c1]
theorem rising_board : ∀ h w : Nat, h ≤ 5 → w ≤ 5 → risingB ltE (boardN h w) = true := by
  intro h w hh hw
  have a : h = 0 ∨ h = 1 ∨ h = 2 ∨ h = 3 ∨ h = 4 ∨ h = 5 := by omega
  have b : w = 0 ∨ w = 1 ∨ w = 2 ∨ w = 3 ∨ w = 4 ∨ w = 5 := by omega
  clear hh hw
  rcases a with rfl | rfl | rfl | rfl | rfl | rfl <;> rcases b with rfl | rfl | rfl | rfl | rfl | rfl <;> kernel_rfl
theorem board_in {h w : Nat} {c : Cell} (hc : c ∈ boardN h w) : (decide (0 ≤ c.1) && decide (c.1 < (h : Int)) && (decide (0 ≤ c.2) && decide (c.2 < (w : Int)))) = true := by
  obtain ⟨⟨a, b⟩, d, e⟩ := mem_board.mp hc
  simp [a, b, d, e]
theorem board_le {h w : Nat} (hh : h ≤ 5) (hw : w ≤ 5) : (boardN h w).length ≤ 25 := by
  rw [boardN_len]; exact Nat.mul_le_mul hh hw
theorem lookK_ord {ks : List (Kd × Kind)} (nd : (ks.map (·.1)).Nodup) (k : Kd) : lookK (ordK ks) k = lookK ks k := by
  have hm : (ordK ks).map (·.1) = srtE (ks.map (·.1)) := by unfold ordK; rw [List.map_map]; exact List.map_id _
  have nd2 : ((ordK ks).map (·.1)).Nodup := by rw [hm]; exact (srtE_perm _).nodup_iff.mpr nd
  cases h : lookK ks k with
  | some K =>
    have hp : (k, K) ∈ ordK ks := by
      unfold ordK
      refine List.mem_map.mpr ⟨k, mem_srtE.mpr ?_, by simp [getK, h]⟩
      unfold lookK at h
      obtain ⟨p, hp, e⟩ := Option.map_eq_some_iff.mp h
      have h1 := List.find?_some hp
      simp at h1
      exact List.mem_map.mpr ⟨p, List.mem_of_find?_eq_some hp, h1⟩
    exact lookK_mem nd2 hp
  | none =>
    unfold lookK at h ⊢
    rw [Option.map_eq_none_iff, List.find?_eq_none] at h ⊢
    intro p hp
    unfold ordK at hp
    obtain ⟨k', hk', rfl⟩ := List.mem_map.mp hp
    obtain ⟨q, hq, rfl⟩ := List.mem_map.mp (mem_srtE.mp hk')
    have := h q hq
    simpa using this
theorem lookK_in {ks : List (Kd × Kind)} {k : Kd} {K : Kind} (h : lookK ks k = some K) : (k, K) ∈ ks := by
  unfold lookK at h
  obtain ⟨p, hp, e⟩ := Option.map_eq_some_iff.mp h
  have h1 := List.find?_some hp
  simp at h1
  have := List.mem_of_find?_eq_some hp
  obtain ⟨a, b⟩ := p
  simp at h1 e
  subst h1 e
  exact this
end DL
end
section
namespace DL
open PySem PySem.Spec L2 DLS
open PyProof.Rows hiding St
/-! ### pieces rise by their cells -/
theorem cell_lex (c d : Cell) (h : c ≠ d) (A B : List (Int ⊕ List Nat)) : PyProof.Rows.lexLt PyProof.Rows.itemOrd (keyT (enc c) ++ A) (keyT (enc d) ++ B) = PyProof.Rows.lexLt PyProof.Rows.itemOrd (keyT (enc c)) (keyT (enc d)) := by
  obtain ⟨a, b⟩ := c
  obtain ⟨a', b'⟩ := d
  have e : ∀ x y : Int, keyT (enc (((x, y) : Cell))) = [.inl 1, .inl x, .inl 1, .inl y, .inl 0] := fun x y => rfl
  rw [e, e]
  have l1 : ∀ (x y : Int) (T : List (Int ⊕ List Nat)), ([.inl 1, .inl x, .inl 1, .inl y, .inl 0] : List (Int ⊕ List Nat)) ++ T = [.inl 1] ++ (.inl x :: .inl 1 :: .inl y :: .inl 0 :: T) := fun _ _ _ => rfl
  have l2 : ∀ (x y : Int), ([.inl 1, .inl x, .inl 1, .inl y, .inl 0] : List (Int ⊕ List Nat)) = [.inl 1] ++ (.inl x :: [.inl 1, .inl y, .inl 0]) := fun _ _ => rfl
  by_cases h1 : a = a'
  · subst h1
    have h2 : b ≠ b' := fun z => h (by rw [z])
    have n : (.inl b : Int ⊕ List Nat) ≠ .inl b' := fun z => h2 (Sum.inl.inj z)
    have m1 : ∀ (y : Int) (T : List (Int ⊕ List Nat)), ([.inl 1, .inl a, .inl 1, .inl y, .inl 0] : List (Int ⊕ List Nat)) ++ T = [.inl 1, .inl a, .inl 1] ++ (.inl y :: .inl 0 :: T) := fun _ _ => rfl
    have m2 : ∀ (y : Int), ([.inl 1, .inl a, .inl 1, .inl y, .inl 0] : List (Int ⊕ List Nat)) = [.inl 1, .inl a, .inl 1] ++ (.inl y :: [.inl 0]) := fun _ => rfl
    rw [m1, m1, PySem.W.lex_pre, PySem.W.lex_atom n, m2 b, m2 b', PySem.W.lex_pre]
    exact (PySem.W.lex_atom n _ _).symm
  · have n : (.inl a : Int ⊕ List Nat) ≠ .inl a' := fun z => h1 (Sum.inl.inj z)
    rw [l1, l1, PySem.W.lex_pre, PySem.W.lex_atom n, l2 a, l2 a', PySem.W.lex_pre]
    exact (PySem.W.lex_atom n _ _).symm
theorem piece_lt (p q : Piece) (h : p.cell ≠ q.cell) : ltE p q = ltE p.cell q.cell := by
  have e : ∀ p : Piece, keyT (enc p) = [.inl 1] ++ (keyT (enc p.cell) ++ [.inl 1, .inl p.side, .inl 1, .inr (kdS p.kd).cps.toList, .inl 0]) := fun p => rfl
  show PyProof.Rows.lexLt PyProof.Rows.itemOrd (keyT (enc p)) (keyT (enc q)) = PyProof.Rows.lexLt PyProof.Rows.itemOrd (keyT (enc p.cell)) (keyT (enc q.cell))
  rw [e, e, PySem.W.lex_pre, cell_lex _ _ h]
/-- pieces on different cells, in order -/
theorem rising_pieces (P : List Piece) (nd : (P.map (·.cell)).Nodup) : risingB ltC (srtE P) = true := by
  have nd2 : ((srtE P).map (·.cell)).Nodup := ((srtE_perm P).map _).nodup_iff.mpr nd
  have so := srtE_sorted P
  generalize srtE P = L at *
  refine risingB_of ?_
  induction L with
  | nil => exact .nil
  | cons a L ih =>
    rw [List.map_cons, List.nodup_cons] at nd2
    rw [List.pairwise_cons] at so ⊢
    refine ⟨fun b hb => ?_, ih nd2.2 so.2⟩
    have ne : a.cell ≠ b.cell := fun z => nd2.1 (List.mem_map.mpr ⟨b, hb, z.symm⟩)
    have : a ≠ b := fun z => ne (by rw [z])
    show ltE a.cell b.cell = true
    rw [← piece_lt _ _ ne]
    exact ltE_of (so.1 b hb) this
theorem erase_perm {α : Type} : ∀ (l : List α) (i : Nat) (h : i < l.length), (l[i] :: l.eraseIdx i).Perm l
  | a :: l, 0, _ => .refl _
  | a :: l, i + 1, h => by
    have hl : i < l.length := by simpa using h
    have ih := erase_perm l i hl
    rw [List.eraseIdx_cons_succ, List.getElem_cons_succ]
    exact (List.Perm.swap a l[i] _).trans (ih.cons a)
theorem pos_nodup {y : Yd} {p : Pos} (h : isPos y p = true) : (p.ps.map (·.cell)).Nodup := by
  unfold isPos at h
  simp only [Bool.and_eq_true] at h
  have r := h.2.2.1
  have : risingB ltE (p.ps.map (·.cell)) = true := by
    generalize p.ps = L at r
    induction L with
    | nil => rfl
    | cons a L ih =>
      cases L with
      | nil => rfl
      | cons b L =>
        simp only [risingB, Bool.and_eq_true, List.map_cons] at r ih ⊢
        exact ⟨r.1, ih r.2⟩
  exact rising_nodup this
structure IsPos (y : Yd) (p : Pos) : Prop where
  tn : p.turn = 0 ∨ p.turn = 1
  l1 : 1 ≤ p.ps.length
  l10 : p.ps.length ≤ 10
  pc : ∀ q ∈ p.ps, isFree y q.cell = true ∧ (q.side = 0 ∨ q.side = 1) ∧ (lookK y.kinds q.kd).isSome = true
  nd : (p.ps.map (·.cell)).Nodup
  srt : srtE p.ps = p.ps
  cr : crowns y p.ps 0 ≠ [] ∨ crowns y p.ps 1 ≠ []
theorem IsPos.of {y : Yd} {p : Pos} (h : isPos y p = true) : IsPos y p := by
  have nd := pos_nodup h
  unfold isPos sides01 at h
  simp only [Bool.and_eq_true, decide_eq_true_eq, List.all_eq_true] at h
  obtain ⟨⟨h1, h2, h3⟩, h4, h5, h6⟩ := h
  refine ⟨h1, h2, h3, fun q hq => ?_, nd, ?_, ?_⟩
  · have := h4 q hq
    unfold isPiece sides01 at this
    simp only [Bool.and_eq_true, decide_eq_true_eq] at this
    exact this
  · refine srtE_id ?_
    have : ∀ L : List Piece, (L.map (·.cell)).Nodup → risingB ltC L = true → L.Pairwise fun a b => leE a b = true := by
      intro L nd r
      have rp : (L.map (·.cell)).Pairwise fun a b => ltE a b = true := by
        refine rising_pwE ?_
        clear nd
        induction L with
        | nil => rfl
        | cons a L ih =>
          cases L with
          | nil => rfl
          | cons b L =>
            simp only [risingB, Bool.and_eq_true, List.map_cons] at r ih ⊢
            exact ⟨r.1, ih r.2⟩
      rw [List.pairwise_map] at rp
      refine rp.imp fun {a b} z => lt_le ?_
      rw [piece_lt _ _ (lt_ne z)]; exact z
    exact this _ nd h5
  · rw [List.length_append] at h6
    by_cases a : crowns y p.ps 0 = []
    · right; intro b; rw [a, b] at h6; simp at h6
    · exact .inl a
theorem IsPos.mk' {y : Yd} {t : Int} {P : List Piece} (tn : t = 0 ∨ t = 1) (l1 : 1 ≤ P.length) (l10 : P.length ≤ 10) (pc : ∀ q ∈ P, isFree y q.cell = true ∧ (q.side = 0 ∨ q.side = 1) ∧ (lookK y.kinds q.kd).isSome = true) (nd : (P.map (·.cell)).Nodup) (cr : ∃ q ∈ P, (q.side = 0 ∨ q.side = 1) ∧ crownOf y q.kd = 1) : isPos y ⟨t, srtE P⟩ = true := by
  have pm := srtE_perm P
  unfold isPos sides01
  simp only [Bool.and_eq_true, decide_eq_true_eq, List.all_eq_true]
  refine ⟨⟨tn, by rw [pm.length_eq]; exact l1, by rw [pm.length_eq]; exact l10⟩, fun q hq => ?_, rising_pieces P nd, ?_⟩
  · have := pc q (mem_srtE.mp hq)
    unfold isPiece sides01
    simp only [Bool.and_eq_true, decide_eq_true_eq]
    exact this
  · obtain ⟨q, hq, hs, hc⟩ := cr
    rw [List.length_append]
    have hq := mem_srtE.mpr hq
    have : ∀ s, q.side = s → 0 < (crowns y (srtE P) s).length := fun s e => by
      refine List.length_pos_of_mem (a := q.cell) ?_
      unfold crowns
      exact List.mem_map.mpr ⟨q, List.mem_filter.mpr ⟨hq, by simp [e, hc]⟩, rfl⟩
    rcases hs with hs | hs
    · have := this 0 hs; omega
    · have := this 1 hs; omega
structure Parts where
  h : Nat
  w : Nat
  holes : List Cell
  ks : List (Kd × Kind)
  g0 : List Cell
  g1 : List Cell
  stuck : Str
def encG (g0 g1 : List Cell) : D := .tup [.lst (g0.map enc), .lst (g1.map enc)]
def encP (p : Parts) : D := .tup [.int p.h, .int p.w, .lst (p.holes.map enc), kindsD p.ks, encG p.g0 p.g1, .str p.stuck]
def freeN (p : Parts) : List Cell := (boardN p.h p.w).filter fun c => !decide (c ∈ p.holes)
def yardOf (p : Parts) : Yd := mkY p.h p.w p.holes p.ks p.g0 p.g1 p.stuck
def kK : Kd := ⟨10, by decide⟩
def kA : Kd := ⟨0, by decide⟩
def kB : Kd := ⟨1, by decide⟩
def kOC (ks : List (Kd × Kind)) : OC := .k (ks.map fun p => enc p.1) (ks.map fun p => encK p.2)
theorem setAD_kd (ks : List (Kd × Kind)) (k : Kd) (K : Kind) (hn : k ∉ ks.map (·.1)) (hl : ks.length ≤ 1000) : setAD (kOC ks) (enc k) (encK K) = some (kOC (ks ++ [(k, K)])) := by
  have a : (isK (enc k) && (ks.map fun p => enc p.1).all isK) = true := by rw [isK_kd, allK_kd]; rfl
  have b : ((ks.map fun p => (enc p.1 : D)).any fun k' => sameK k' (enc k)) = false := by
    rw [List.any_map, List.any_eq_false]
    intro p hp
    show ¬ sameK (enc p.1) (enc k) = true
    rw [sameK_kd]
    have : p.1 ≠ k := fun z => hn (List.mem_map.mpr ⟨p, hp, z⟩)
    simp [this]
  have c : setKD (kOC ks) (enc k) (encK K) = some (kOC (ks ++ [(k, K)])) := by
    unfold setKD kOC
    dsimp only
    rw [if_pos ⟨a, by rw [List.length_map]; exact Nat.lt_of_le_of_lt hl (by rw [sizeLine_eq]; decide)⟩]
    unfold putF
    rw [b]
    simp
  unfold setAD
  rw [c]; rfl
theorem slD_l (F : List Cell) (lo hi : Option Int) : slD lo hi (.lst (F.map enc)) = some (.lst ((cutL F lo hi).map enc)) := by
  show some (D.lst (cutL (F.map enc) lo hi)) = _
  rw [cutL_map]
end DL
end
section
namespace DL
open PySem PySem.Spec L2 DLS
open PyProof.Rows hiding St
/-! ### what a way is -/
theorem rideGo_in {y : Yd} {ps : List Piece} {side : Int} {c s : Cell} : ∀ (n : Nat) (a k : Int), k ∈ rideGo y ps side c s n a → a ≤ k ∧ k < a + n ∧ mayEnd y ps side (goneC c s k) = true ∧ ∀ j, a ≤ j → j < k → isFree y (goneC c s j) = true ∧ pieceAt ps (goneC c s j) = none
  | 0, a, k, h => by simp [rideGo] at h
  | n + 1, a, k, h => by
    unfold rideGo at h
    split at h
    · rename_i hm
      rcases List.mem_cons.mp h with rfl | h
      · exact ⟨by omega, by omega, hm, fun j h1 h2 => by omega⟩
      · split at h
        · cases h
        · rename_i hp
          obtain ⟨h1, h2, h3, h4⟩ := rideGo_in n (a + 1) k h
          refine ⟨by omega, by omega, h3, fun j j1 j2 => ?_⟩
          by_cases e : j = a
          · subst e
            refine ⟨?_, by simpa using hp⟩
            unfold mayEnd at hm
            rw [Bool.and_eq_true] at hm
            exact hm.1
          · exact h4 j (by omega) j2
    · cases h
/-- a way of a piece: the step is one of its kind's, turned; so many times it is gone, over empty cells -/
structure WayOk (y : Yd) (p : Pos) (q : Piece) (K : Kind) (m : Move) (w : Way) : Prop where
  mem : q ∈ p.ps
  side : q.side = p.turn
  cell : q.cell = m.1
  kind : lookK y.kinds q.kd = some K
  fin : mayEnd y p.ps p.turn m.2 = true
  way : ∃ s, w.step = turnS s p.turn ∧ m.2 = goneC m.1 w.step w.n ∧ ((w.ride = false ∧ s ∈ K.leaps ∧ w.n = 1) ∨ (w.ride = true ∧ s ∈ K.rides ∧ 1 ≤ w.n ∧ w.n < 9 ∧ ∀ j, 1 ≤ j → j < w.n → isFree y (goneC m.1 w.step j) = true ∧ pieceAt p.ps (goneC m.1 w.step j) = none))
theorem way_ok {y : Yd} {p : Pos} {m : Move} {w : Way} (h : (m, w) ∈ allWays y p) : ∃ q K, WayOk y p q K m w := by
  unfold allWays at h
  obtain ⟨q, hq, h⟩ := List.mem_flatMap.mp h
  unfold pieceW at h
  split at h
  · rename_i hs
    obtain ⟨z, hz, e⟩ := List.mem_map.mp h
    obtain ⟨c, w'⟩ := z
    injection e with e1 e2
    subst e1 e2
    unfold waysOf at hz
    split at hz
    · rename_i K hK
      refine ⟨q, K, hq, hs, rfl, hK, ?_, ?_⟩
      all_goals
        unfold waysK at hz
        rcases List.mem_append.mp hz with hz | hz
        · obtain ⟨s, h1, h2⟩ := List.mem_flatMap.mp hz
          unfold leapW at h2
          rw [hs] at h2
          split at h2
          · rename_i hm
            simp at h2
            obtain ⟨rfl, rfl⟩ := h2
            first
              | exact hm
              | exact ⟨s, rfl, rfl, .inl ⟨rfl, h1, rfl⟩⟩
          · cases h2
        · obtain ⟨s, h1, h2⟩ := List.mem_flatMap.mp hz
          unfold rideW at h2
          rw [hs] at h2
          obtain ⟨k, hk, e⟩ := List.mem_map.mp h2
          injection e with e1 e2
          subst e1 e2
          obtain ⟨k1, k2, k3, k4⟩ := rideGo_in 8 1 k hk
          first
            | exact k3
            | exact ⟨s, rfl, rfl, .inr ⟨rfl, h1, k1, by show k < 9; omega, k4⟩⟩
    · cases hz
  · cases h
theorem pieceAt_some {ps : List Piece} (nd : (ps.map (·.cell)).Nodup) {q : Piece} (h : q ∈ ps) : pieceAt ps q.cell = some (q.side, q.kd) := by
  unfold pieceAt
  induction ps with
  | nil => cases h
  | cons a ps ih =>
    rw [List.map_cons, List.nodup_cons] at nd
    rw [List.findSome?_cons]
    rcases List.mem_cons.mp h with rfl | h
    · simp
    · have : a.cell ≠ q.cell := fun z => nd.1 (List.mem_map.mpr ⟨q, h, z.symm⟩)
      simp only [this, if_false]
      exact ih nd.2 h
theorem mayEnd_free {y : Yd} {ps : List Piece} {side : Int} {c : Cell} (h : mayEnd y ps side c = true) : isFree y c = true := by
  unfold mayEnd at h
  rw [Bool.and_eq_true] at h
  exact h.1
theorem mayEnd_other {y : Yd} {ps : List Piece} {side : Int} {c : Cell} (nd : (ps.map (·.cell)).Nodup) (h : mayEnd y ps side c = true) {q : Piece} (hq : q ∈ ps) (e : q.cell = c) : q.side ≠ side := by
  unfold mayEnd at h
  rw [Bool.and_eq_true, ← e, pieceAt_some nd hq] at h
  simpa using h.2
/-! ### fewer than 64 moves -/
theorem nodup_len {α : Type} [DecidableEq α] : ∀ {l m : List α}, l.Nodup → (∀ x ∈ l, x ∈ m) → l.length ≤ m.length
  | [], _, _, _ => Nat.zero_le _
  | a :: l, m, nd, h => by
    rw [List.nodup_cons] at nd
    have ha := h a (by simp)
    have ih := nodup_len (l := l) (m := m.erase a) nd.2 fun x hx => by
      have hx' := h x (by simp [hx])
      have : x ≠ a := fun z => nd.1 (z ▸ hx)
      exact (List.mem_erase_of_ne this).mpr hx'
    rw [List.length_erase_of_mem ha] at ih
    have := List.length_pos_of_mem ha
    simp only [List.length_cons]
    omega
theorem prod_len {α β : Type} (xs : List α) (ys : List β) : (xs.flatMap fun a => ys.map fun b => (a, b)).length = xs.length * ys.length := by
  induction xs with
  | nil => simp
  | cons a xs ih => rw [List.flatMap_cons, List.length_append, ih, List.length_map, List.length_cons, Nat.succ_mul, Nat.add_comm]
structure Small (y : Yd) : Prop where
  h0 : 0 ≤ y.h
  h4 : y.h ≤ 4
  w0 : 0 ≤ y.w
  w4 : y.w ≤ 4
/-- a board up to 4 x 4 with up to 7 pieces, or up to 5 x 5 with up to 3 -/
structure Smb (y : Yd) (n : Nat) : Prop where
  h0 : 0 ≤ y.h
  w0 : 0 ≤ y.w
  c : (y.h ≤ 4 ∧ y.w ≤ 4 ∧ n ≤ 7) ∨ (y.h ≤ 5 ∧ y.w ≤ 5 ∧ n ≤ 3)
theorem Smb.mono {y : Yd} {n m : Nat} (s : Smb y n) (h : m ≤ n) : Smb y m := ⟨s.h0, s.w0, s.c.elim (fun z => .inl ⟨z.1, z.2.1, Nat.le_trans h z.2.2⟩) fun z => .inr ⟨z.1, z.2.1, Nat.le_trans h z.2.2⟩⟩
def ownC (p : Pos) : List Cell := (p.ps.filter fun q => decide (q.side = p.turn)).map (·.cell)
theorem own_bound {y : Yd} {p : Pos} (hs : Smb y p.ps.length) (hp : IsPos y p) : ∃ b : Nat, (nubE [] ((allWays y p).map (·.1))).length ≤ (ownC p).length * (b - (ownC p).length) ∧ ((b ≤ 16 ∧ (ownC p).length ≤ 7) ∨ (b ≤ 25 ∧ (ownC p).length ≤ 3 ∧ p.ps.length ≤ 3)) := by
  have hl : p.ps.length ≤ 7 := by have := hs.c; omega
  let own := ownC p
  let brd := boardN y.h.toNat y.w.toNat
  have ondo : own.Nodup := hp.nd.sublist (List.filter_sublist.map _)
  have ol : own.length ≤ 7 := by
    show (List.map _ _).length ≤ 7
    rw [List.length_map]
    exact Nat.le_trans (List.length_filter_le _ _) hl
  have h0 := hs.h0; have w0 := hs.w0; have h4 : y.h ≤ 5 := by have := hs.c; omega
  have w4 : y.w ≤ 5 := by have := hs.c; omega
  have ol3 : own.length ≤ p.ps.length := by
    show (List.map _ _).length ≤ _
    rw [List.length_map]
    exact List.length_filter_le _ _
  have bl : (brd.length ≤ 16 ∧ own.length ≤ 7) ∨ (brd.length ≤ 25 ∧ own.length ≤ 3 ∧ p.ps.length ≤ 3) := by
    rcases hs.c with z | z
    · refine .inl ⟨?_, by omega⟩
      show (boardN _ _).length ≤ _
      rw [boardN_len]
      have : y.h.toNat * y.w.toNat ≤ 4 * 4 := Nat.mul_le_mul (by omega) (by omega)
      omega
    · refine .inr ⟨?_, by omega, z.2.2⟩
      show (boardN _ _).length ≤ _
      rw [boardN_len]
      have : y.h.toNat * y.w.toNat ≤ 5 * 5 := Nat.mul_le_mul (by omega) (by omega)
      omega
  have bnd : brd.Nodup := rising_nodup (rising_board _ _ (by omega) (by omega))
  have inb : ∀ c, isFree y c = true → c ∈ brd := fun c hc => by
    obtain ⟨⟨a, b⟩, d, e⟩ := free_of hc
    exact mem_board.mpr (by omega)
  let oth := brd.filter fun c => !decide (c ∈ own)
  have othl : oth.length + own.length ≤ brd.length := by
    have nd : (oth ++ own).Nodup := by
      rw [List.nodup_append]
      refine ⟨bnd.sublist List.filter_sublist, ondo, fun a ha b hb e => ?_⟩
      have := (List.mem_filter.mp ha).2
      rw [e] at this
      simp [hb] at this
    have := nodup_len nd (m := brd) fun x hx => by
      rcases List.mem_append.mp hx with hx | hx
      · exact (List.mem_filter.mp hx).1
      · obtain ⟨q, hq, rfl⟩ := List.mem_map.mp hx
        exact inb _ (hp.pc q (List.mem_filter.mp hq).1).1
    rw [List.length_append] at this
    omega
  have := nodup_len (l := nubE [] ((allWays y p).map (·.1))) (m := own.flatMap fun a => oth.map fun b => (a, b)) nubE_nodup fun mv hm => by
    rw [mem_nubE] at hm
    obtain ⟨⟨m, w⟩, hw, rfl⟩ := List.mem_map.mp hm.1
    obtain ⟨q, K, W⟩ := way_ok hw
    refine List.mem_flatMap.mpr ⟨m.1, List.mem_map.mpr ⟨q, List.mem_filter.mpr ⟨W.mem, by simp [W.side]⟩, W.cell⟩, List.mem_map.mpr ⟨m.2, List.mem_filter.mpr ⟨inb _ (mayEnd_free W.fin), ?_⟩, rfl⟩⟩
    have : m.2 ∉ own := fun z => by
      obtain ⟨r, hr, e⟩ := List.mem_map.mp z
      obtain ⟨r1, r2⟩ := List.mem_filter.mp hr
      exact mayEnd_other hp.nd W.fin r1 e (by simpa using r2)
    simpa using this
  rw [prod_len] at this
  have hh : own.length * oth.length ≤ own.length * (brd.length - own.length) := Nat.mul_le_mul_left _ (by omega)
  exact ⟨brd.length, Nat.le_trans this hh, bl⟩
theorem mul_few {n b : Nat} (h : (b ≤ 16 ∧ n ≤ 7) ∨ (b ≤ 25 ∧ n ≤ 2)) : n * (b - n) ≤ 63 := by
  rcases h with ⟨b1, n1⟩ | ⟨b1, n1⟩
  · have h1 : n * (b - n) ≤ n * (16 - n) := Nat.mul_le_mul_left _ (by omega)
    have : n = 0 ∨ n = 1 ∨ n = 2 ∨ n = 3 ∨ n = 4 ∨ n = 5 ∨ n = 6 ∨ n = 7 := by omega
    rcases this with rfl | rfl | rfl | rfl | rfl | rfl | rfl | rfl <;> omega
  · have h1 : n * (b - n) ≤ n * (25 - n) := Nat.mul_le_mul_left _ (by omega)
    have : n = 0 ∨ n = 1 ∨ n = 2 := by omega
    rcases this with rfl | rfl | rfl <;> omega
theorem few64 {y : Yd} {p : Pos} (hs : Smb y p.ps.length) (hp : IsPos y p) : Few64 y p := by
  obtain ⟨b, h1, h2⟩ := own_bound hs hp
  unfold Few64
  have : (ownC p).length * (b - (ownC p).length) ≤ 66 := by
    generalize (ownC p).length = n at *
    rcases h2 with h2 | ⟨b1, n1, _⟩
    · have := mul_few (.inl h2); omega
    · by_cases c : n ≤ 2
      · have := mul_few (n := n) (b := b) (.inr ⟨b1, c⟩); omega
      · have : n = 3 := by omega
        subst this
        omega
  omega
end DL
end
section
namespace DL
open PySem PySem.Spec L2 DLS
open PyProof.Rows hiding St
/-! ### the program's doors -/
structure Sit (y : Yd) (p : Pos) : Prop where
  gy : YGood y
  sm : Smb y p.ps.length
  ps : isPos y p = true
  l7 : p.ps.length ≤ 7
theorem Sit.ok {y : Yd} {p : Pos} (S : Sit y p) : POk y p := POk.of S.ps
theorem Sit.ip {y : Yd} {p : Pos} (S : Sit y p) : IsPos y p := IsPos.of S.ps
theorem Sit.few {y : Yd} {p : Pos} (S : Sit y p) : Few64 y p := few64 S.sm S.ip
section
variable {y : Yd} {p : Pos}
/-! ### behind a move -/
end
end DL
end
section
namespace DL
open PySem PySem.Spec L2 DLS
open PyProof.Rows hiding St
/-! ### lines and their numbers -/
section
variable {y : Yd}
end
end DL
end
section
namespace DL
open PySem PySem.Spec L2 DLS
open PyProof.Rows hiding St
section
variable {y : Yd}
end
end DL
end
section
namespace DL
open PySem PySem.Spec L2 DLS
open PyProof.Rows hiding St
/-! ### a comprehension that changes a state -/
theorem item_t {β : Type} {e' : β → D} {tt : M Bool} {te : M D} {acc : List β} {b : β} {ρ1 ρ2 ρ3 : DL.Env} (h1 : tt ρ1 = .ok true ρ2) (h2 : te ρ2 = .ok (e' b) ρ3) (hz : acc.length < sizeLine) : itemM tt te (acc.map e') ρ1 = .ok ((acc ++ [b]).map e') ρ3 := by
  unfold itemM
  rw [bindM_ap, h1]
  show bindM te _ ρ2 = _
  rw [bindM_ap, h2]
  dsimp only
  rw [List.length_map, if_pos hz, List.map_append]
  rfl
theorem item_f {β : Type} {e' : β → D} {tt : M Bool} {te : M D} {acc : List β} {ρ1 ρ2 : DL.Env} (h1 : tt ρ1 = .ok false ρ2) : itemM tt te (acc.map e') ρ1 = .ok (acc.map e') ρ2 := by
  unfold itemM
  rw [bindM_ap, h1]
  rfl
theorem compGo_pre {α β : Type} {e : α → D} {e' : β → D} {tg : TgF} {tt : M Bool} {te : M D} {vs : List Nat} (R : List α → List β → DL.Env → Prop) (all : List α)
    (h : ∀ pre x post acc ρ, all = pre ++ x :: post → R pre acc ρ → ∃ ρ1 ρ2 acc', tg (e x) ρ = some ρ1 ∧ itemM tt te (acc.map e') ρ1 = .ok (acc'.map e') ρ2 ∧ plainB vs ρ2 = true ∧ R (pre ++ [x]) acc' (wipeE ρ2 vs)) :
    ∀ (xs pre : List α) (acc : List β) (ρ : DL.Env), all = pre ++ xs → R pre acc ρ → ∃ acc' ρ', compGo tg tt te vs (acc.map e') (xs.map e) ρ = .ok (acc'.map e') ρ' ∧ R all acc' ρ'
  | [], pre, acc, ρ, ea, r => ⟨acc, ρ, by simp [compGo], by rw [ea, List.append_nil]; exact r⟩
  | x :: xs, pre, acc, ρ, ea, r => by
    obtain ⟨ρ1, ρ2, acc', h1, h2, h3, h4⟩ := h pre x xs acc ρ ea r
    obtain ⟨acc2, ρ', i1, i2⟩ := compGo_pre R all h xs (pre ++ [x]) acc' (wipeE ρ2 vs) (by rw [ea]; simp) h4
    refine ⟨acc2, ρ', ?_, i2⟩
    rw [List.map_cons]
    unfold compGo
    simp only [h1, h2, h3, if_true]
    exact i1
/-- a constructed yard is a good one -/
theorem YIn.good {h w : Int} {holes : List Cell} {ks : List (Kd × Kind)} {g0 g1 : List Cell} {stuck : Str} (H : YIn h w holes ks g0 g1 stuck) : YGood (mkY h w holes ks g0 g1 stuck) := by
  have lk : ∀ k K, lookK (mkY h w holes ks g0 g1 stuck).kinds k = some K → (k, K) ∈ ks := fun k K e => by
    have e : lookK (ordK ks) k = some K := e
    rw [lookK_ord H.nd] at e
    exact lookK_in e
  refine ⟨⟨H.h5, H.w5⟩, ?_, ?_, H.lh, ⟨(H.g _ (.inl rfl)).2.1, (H.g _ (.inr rfl)).2.1⟩, H.st⟩
  · intro k K e s hs
    have hk := (H.kk _ (lk k K e)).1
    unfold okKind stepsAll at hk
    simp only [Bool.and_eq_true, List.all_eq_true] at hk
    have := hk.2.2.2 s (List.mem_append.mpr (.inr hs))
    unfold isStep at this
    simp only [Bool.and_eq_true, Bool.not_eq_true', decide_eq_false_iff_not] at this
    exact this.1
  · intro k K e
    exact (H.kk _ (lk k K e)).2
end DL
end
section
namespace DL
open PySem PySem.Spec L2 DLS
open PyProof.Rows hiding St
/-! ### what must hold ahead of a run: weakest conditions -/
@[irreducible] def Wp {α : Type} (m : M α) (ρ : DL.Env) (Q : α → DL.Env → Prop) (X : Str → DL.Env → Prop) : Prop := match m ρ with
  | .ok a ρ' => Q a ρ'
  | .exc c ρ' => X c ρ'
  | .stuck => False
@[irreducible] def Fp (r : FRes) (Q : D → List OC → Prop) (X : Str → List OC → Prop) : Prop := match r with
  | .ok d os => Q d os
  | .exc c os => X c os
  | .stuck => False
abbrev noX {α : Type} : Str → α → Prop := fun _ _ => False
section
variable {α β : Type} {ρ ρ' : DL.Env} {X : Str → DL.Env → Prop} {Q : α → DL.Env → Prop} {QD : D → DL.Env → Prop} {QB : Bool → DL.Env → Prop} {QL : List D → DL.Env → Prop} {QA : List Ag → DL.Env → Prop} {QF : Flow → DL.Env → Prop} {QU : Unit → DL.Env → Prop} {QC : OC → DL.Env → Prop}
theorem Wp_of {m : M α} {a : α} (h : m ρ = .ok a ρ') : Wp m ρ Q X = Q a ρ' := by unfold Wp; rw [h]
theorem Fp_of {r : FRes} {d : D} {os : List OC} {P : D → List OC → Prop} {Y : Str → List OC → Prop} (h : r = .ok d os) : Fp r P Y = P d os := by unfold Fp; rw [h]
@[simp] theorem Fp_ok {d : D} {os : List OC} {P : D → List OC → Prop} {Y : Str → List OC → Prop} : Fp (.ok d os) P Y = P d os := by unfold Fp; rfl
@[simp] theorem Fp_ex {d : Str} {os : List OC} {P : D → List OC → Prop} {Y : Str → List OC → Prop} : Fp (.exc d os) P Y = Y d os := by unfold Fp; rfl
@[simp] theorem Fp_stuck {P : D → List OC → Prop} {Y : Str → List OC → Prop} : Fp .stuck P Y = False := by unfold Fp; rfl
theorem Wp_ok {m : M α} (h : Wp m ρ Q noX) : ∃ a ρ', m ρ = .ok a ρ' ∧ Q a ρ' := by
  unfold Wp at h
  cases e : m ρ with
  | ok a ρ' => rw [e] at h; exact ⟨a, ρ', rfl, h⟩
  | exc c ρ' => rw [e] at h; exact h.elim
  | stuck => rw [e] at h; exact h.elim
theorem Fp_ok' {r : FRes} {P : D → List OC → Prop} (h : Fp r P noX) : ∃ d os, r = .ok d os ∧ P d os := by
  unfold Fp at h
  cases r with
  | ok a ρ' => exact ⟨a, ρ', rfl, h⟩
  | exc c ρ' => exact h.elim
  | stuck => exact h.elim
theorem Wp_mono {m : M α} {Q' : α → DL.Env → Prop} {X' : Str → DL.Env → Prop} (h : Wp m ρ Q X) (hq : ∀ a ρ', Q a ρ' → Q' a ρ') (hx : ∀ c ρ', X c ρ' → X' c ρ') : Wp m ρ Q' X' := by
  unfold Wp at h ⊢
  cases e : m ρ with
  | ok a ρ' => rw [e] at h; exact hq _ _ h
  | exc c ρ' => rw [e] at h; exact hx _ _ h
  | stuck => rw [e] at h; exact h.elim
@[simp] theorem Wp_pure (a : α) : Wp (pureM a) ρ Q X = Q a ρ := by unfold Wp; rfl
@[simp] theorem Wp_bind (m : M β) (k : β → M α) : Wp (bindM m k) ρ Q X = Wp m ρ (fun a ρ' => Wp (k a) ρ' Q X) X := by
  unfold Wp bindM
  cases m ρ <;> rfl
@[simp] theorem Wp_stuck : Wp (stuckM : M α) ρ Q X = False := by unfold Wp; rfl
@[simp] theorem Wp_lift (o : Option α) : Wp (liftM o) ρ Q X = ∃ z, o = some z ∧ Q z ρ := by
  cases o with
  | none => simp [liftM]
  | some z => simp [liftM]
@[simp] theorem Wp_getM (i : Nat) : Wp (getM i) ρ QD X = ∃ x, ρ[i]? = some (.d x) ∧ QD x ρ := by
  unfold Wp getM
  cases e : ρ[i]? with
  | none => simp
  | some s => cases s <;> simp
@[simp] theorem Wp_getO (i : Nat) : Wp (getO i) ρ QL X = ∃ x, ρ[i]? = some (.own x) ∧ QL x ρ := by
  unfold Wp getO
  cases e : ρ[i]? with
  | none => simp
  | some s =>
    match s with
    | .cell (.l xs) => simp
    | .cell (.k _ _) => simp
    | .no => simp
    | .d _ => simp
    | .exn _ => simp
@[simp] theorem Wp_getC (i : Nat) : Wp (getC i) ρ QC X = ∃ x, ρ[i]? = some (.cell x) ∧ QC x ρ := by
  unfold Wp getC
  cases e : ρ[i]? with
  | none => simp
  | some s => cases s <;> simp
@[simp] theorem Wp_rdM (i : Nat) : Wp (rdM i) ρ QD X = ((∃ x, ρ[i]? = some (.d x) ∧ QD x ρ) ∨ (∃ c, ρ[i]? = some (.cell c) ∧ QD (ocD c) (ρ.set i (.d (ocD c))))) := by
  unfold Wp rdM
  cases e : ρ[i]? with
  | none => simp
  | some s => cases s <;> simp
@[simp] theorem Wp_putO (i : Nat) (xs : List D) : Wp (putO i xs) ρ QU X = QU () (ρ.set i (.own xs)) := by unfold Wp; rfl
@[simp] theorem Wp_putC (i : Nat) (c : OC) : Wp (putC i c) ρ QU X = QU () (ρ.set i (.cell c)) := by unfold Wp; rfl
@[simp] theorem Wp_haveS (i : Nat) : Wp (haveS i) ρ QU X = ((∃ c, ρ[i]? = some (.cell c)) ∧ QU () ρ ∨ (∃ c, ρ[i]? = some (.exn c)) ∧ QU () ρ) := by
  unfold Wp haveS
  cases e : ρ[i]? with
  | none => simp
  | some s => cases s <;> simp
@[simp] theorem Wp_op2 (g : D → D → Option D) (fa fb : M D) : Wp (op2 g fa fb) ρ QD X = Wp fa ρ (fun x ρ1 => Wp fb ρ1 (fun y ρ2 => ∃ z, g x y = some z ∧ QD z ρ2) X) X := by simp [op2]
@[simp] theorem Wp_opO (i : Nat) (g : List D → D → Option D) (fb : M D) : Wp (opO i g fb) ρ QD X = Wp fb ρ (fun y ρ1 => Wp (getO i) ρ1 (fun xs ρ2 => ∃ z, g xs y = some z ∧ QD z ρ2) X) X := by simp [opO]
@[simp] theorem Wp_opC (i : Nat) (g : OC → D → Option D) (fb : M D) : Wp (opC i g fb) ρ QD X = Wp fb ρ (fun y ρ1 => Wp (getC i) ρ1 (fun xs ρ2 => ∃ z, g xs y = some z ∧ QD z ρ2) X) X := by simp [opC]
def isBl : D → Prop
  | .bl _ => True
  | _ => False
def blOf : D → Bool
  | .bl b => b
  | _ => false
@[simp] theorem isBl_bl (b : Bool) : isBl (.bl b) = True := rfl
@[simp] theorem blOf_bl (b : Bool) : blOf (.bl b) = b := rfl
theorem Wp_mB {d : D} : Wp (match d with | .bl b => pureM b | _ => stuckM) ρ QB X = (isBl d ∧ QB (blOf d) ρ) := by cases d <;> simp [isBl]
@[simp] theorem Wp_boolM (f : M D) : Wp (boolM f) ρ QB X = Wp f ρ (fun d ρ' => isBl d ∧ QB (blOf d) ρ') X := by
  unfold boolM
  rw [Wp_bind]
  congr 1
  funext d ρ'
  exact Wp_mB
@[simp] theorem Wp_andM (f g : M Bool) : Wp (andM f g) ρ QB X = Wp f ρ (fun b ρ' => if b = true then Wp g ρ' QB X else QB false ρ') X := by
  unfold andM
  rw [Wp_bind]
  congr 1
  funext d ρ'
  cases d <;> simp
@[simp] theorem Wp_orM (f g : M Bool) : Wp (orM f g) ρ QB X = Wp f ρ (fun b ρ' => if b = true then QB true ρ' else Wp g ρ' QB X) X := by
  unfold orM
  rw [Wp_bind]
  congr 1
  funext d ρ'
  cases d <;> simp
@[simp] theorem Wp_notM (f : M Bool) : Wp (notM f) ρ QB X = Wp f ρ (fun b ρ' => QB (!b) ρ') X := by simp [notM]
@[simp] theorem Wp_andV (f g : M D) : Wp (andV f g) ρ QD X = Wp f ρ (fun d ρ' => isBl d ∧ if blOf d = true then Wp g ρ' QD X else QD (.bl false) ρ') X := by
  unfold andV
  rw [Wp_bind]
  congr 1
  funext d ρ'
  cases d with
  | bl b => cases b <;> simp [isBl]
  | _ => simp [isBl]
@[simp] theorem Wp_orV (f g : M D) : Wp (orV f g) ρ QD X = Wp f ρ (fun d ρ' => isBl d ∧ if blOf d = true then QD (.bl true) ρ' else Wp g ρ' QD X) X := by
  unfold orV
  rw [Wp_bind]
  congr 1
  funext d ρ'
  cases d with
  | bl b => cases b <;> simp [isBl]
  | _ => simp [isBl]
@[simp] theorem Wp_notV (f : M D) : Wp (notV f) ρ QD X = Wp f ρ (fun d ρ' => isBl d ∧ QD (.bl (!blOf d)) ρ') X := by
  unfold notV
  rw [Wp_bind]
  congr 1
  funext d ρ'
  cases d <;> simp [isBl]
@[simp] theorem Wp_isN (f : M D) : Wp (isN f) ρ QD X = Wp f ρ (fun d ρ' => QD (.bl (isNb d)) ρ') X := by simp [isN]
@[simp] theorem Wp_notN (f : M D) : Wp (notN f) ρ QD X = Wp f ρ (fun d ρ' => QD (.bl (!isNb d)) ρ') X := by simp [notN]
@[simp] theorem Wp_negM (f : M D) : Wp (negM f) ρ QD X = Wp f ρ (fun d ρ' => ∃ i, d = .int i ∧ QD (.int (-i)) ρ') X := by
  unfold negM
  rw [Wp_bind]
  congr 1
  funext d ρ'
  cases d <;> simp
@[simp] theorem Wp_iteM (c : M Bool) (f g : M α) : Wp (iteM c f g) ρ Q X = Wp c ρ (fun b ρ' => if b = true then Wp f ρ' Q X else Wp g ρ' Q X) X := by
  unfold iteM
  rw [Wp_bind]
  congr 1
  funext d ρ'
  cases d <;> simp
@[simp] theorem Wp_consM (f : M D) (g : M (List D)) : Wp (consM f g) ρ QL X = Wp f ρ (fun x ρ1 => Wp g ρ1 (fun xs ρ2 => QL (x :: xs) ρ2) X) X := by simp [consM]
@[simp] theorem Wp_consA (f : M D) (g : M (List Ag)) : Wp (consA f g) ρ QA X = Wp f ρ (fun x ρ1 => Wp g ρ1 (fun xs ρ2 => QA (.d x :: xs) ρ2) X) X := by simp [consA]
@[simp] theorem Wp_consS (i : Nat) (g : M (List Ag)) : Wp (consS i g) ρ QA X = Wp g ρ (fun xs ρ2 => QA (.sl i :: xs) ρ2) X := by simp [consS]
@[simp] theorem Wp_consC (f : M OC) (g : M (List Ag)) : Wp (consC f g) ρ QA X = Wp f ρ (fun x ρ1 => Wp g ρ1 (fun xs ρ2 => QA (.tmp x :: xs) ρ2) X) X := by simp [consC]
@[simp] theorem Wp_lstM (f : M (List D)) : Wp (lstM f) ρ QD X = Wp f ρ (fun x ρ1 => QD (.lst x) ρ1) X := by simp [lstM]
@[simp] theorem Wp_ocL (f : M (List D)) : Wp (ocL f) ρ QC X = Wp f ρ (fun x ρ1 => QC (.l x) ρ1) X := by simp [ocL]
@[simp] theorem Wp_ocM (f : M OC) : Wp (ocM f) ρ QD X = Wp f ρ (fun x ρ1 => QD (ocD x) ρ1) X := by simp [ocM]
theorem Wp_ite {p : Prop} [Decidable p] (m : M α) : Wp (if p then m else stuckM) ρ Q X = (p ∧ Wp m ρ Q X) := by
  by_cases h : p <;> simp [h]
@[simp] theorem Wp_sizeM (f : M (List D)) : Wp (sizeM f) ρ QL X = Wp f ρ (fun x ρ1 => x.length ≤ sizeLine ∧ QL x ρ1) X := by
  unfold sizeM
  rw [Wp_bind]
  congr 1
  funext d ρ'
  rw [Wp_ite, Wp_pure]
@[simp] theorem Wp_tupM (f : M (List D)) : Wp (tupM f) ρ QD X = Wp f ρ (fun x ρ1 => x.length ≤ sizeLine ∧ QD (.tup x) ρ1) X := by
  unfold tupM
  rw [Wp_bind, Wp_sizeM]
  simp only [Wp_pure]
@[simp] theorem Wp_callD (g : List D → Option D) (f : M (List D)) : Wp (callD g f) ρ QD X = Wp f ρ (fun x ρ1 => ∃ z, g x = some z ∧ QD z ρ1) X := by simp [callD]
@[simp] theorem Wp_callO (g : List D → Option (List D)) (f : M (List D)) : Wp (callO g f) ρ QL X = Wp f ρ (fun x ρ1 => ∃ z, g x = some z ∧ QL z ρ1) X := by simp [callO]
@[simp] theorem Wp_itemsGM (f : M D) : Wp (itemsGM f) ρ QL X = Wp f ρ (fun x ρ1 => ∃ z, itemsG x = some z ∧ QL z ρ1) X := by simp [itemsGM]
@[simp] theorem Wp_itemsM (f : M D) : Wp (itemsM f) ρ QL X = Wp f ρ (fun x ρ1 => ∃ z, itemsOf x = some z ∧ QL z ρ1) X := by simp [itemsM]
@[simp] theorem Wp_rg1M (f : M (List D)) : Wp (rg1M f) ρ QL X = Wp f ρ (fun x ρ1 => ∃ z, rg1 x = some z ∧ QL z ρ1) X := by simp [rg1M]
@[simp] theorem Wp_rg2M (f : M (List D)) : Wp (rg2M f) ρ QL X = Wp f ρ (fun x ρ1 => ∃ z, rg2 x = some z ∧ QL z ρ1) X := by simp [rg2M]
@[simp] theorem Wp_isiM (T : String) (f : M D) : Wp (isiM T f) ρ QD X = Wp f ρ (fun x ρ1 => ∃ z, (isTy T x).map D.bl = some z ∧ QD z ρ1) X := by simp [isiM]
@[simp] theorem Wp_catM (fa fb : M D) : Wp (catM fa fb) ρ QL X = Wp fa ρ (fun x ρ1 => Wp fb ρ1 (fun y ρ2 => ∃ z, catD x y = some z ∧ QL z ρ2) X) X := by simp [catM]
@[simp] theorem Wp_partM (f : M D) (QO : Option Int → DL.Env → Prop) : Wp (partM f) ρ QO X = Wp f ρ (fun d ρ' => ∃ i, d = .int i ∧ QO (some i) ρ') X := by
  unfold partM
  rw [Wp_bind]
  congr 1
  funext d ρ'
  cases d <;> simp
@[simp] theorem Wp_slM (fe : M D) (fl fh : M (Option Int)) : Wp (slM fe fl fh) ρ QD X = Wp fe ρ (fun x ρ1 => Wp fl ρ1 (fun l ρ2 => Wp fh ρ2 (fun h ρ3 => ∃ z, slD l h x = some z ∧ QD z ρ3) X) X) X := by simp [slM]
@[simp] theorem Wp_revM (f : M D) : Wp (revM f) ρ QD X = Wp f ρ (fun d ρ' => ∃ xs, d = .lst xs ∧ QD (.lst xs.reverse) ρ') X := by
  unfold revM
  rw [Wp_bind]
  congr 1
  funext d ρ'
  cases d <;> simp
def mtR : Option (D × List D) → (D → List D → Prop) → Prop
  | some z, P => P z.1 z.2
  | none, _ => False
@[simp] theorem mtR_some (d : D) (xs : List D) (P : D → List D → Prop) : mtR (some (d, xs)) P = P d xs := rfl
theorem mtR_ex (o : Option (D × List D)) (P : D → List D → Prop) : (∃ z, o = some z ∧ P z.1 z.2) = mtR o P := by
  cases o with
  | none => simp [mtR]
  | some z => simp [mtR]
@[simp] theorem Wp_mtO (i : Nat) (g : List D → List D → Option (D × List D)) (f : M (List D)) : Wp (mtO i g f) ρ QD X = Wp (getO i) ρ (fun _ ρ0 => Wp f ρ0 (fun ds ρ1 => Wp (getO i) ρ1 (fun xs ρ2 => mtR (g xs ds) fun d ys => QD d (ρ2.set i (.own ys))) X) X) X := by
  unfold mtO
  simp only [Wp_bind, Wp_lift, Wp_putO, Wp_pure, mtR_ex]
  congr 1
  funext a b
  congr 1
  funext c d
  congr 1
  funext xs ρ2
  exact mtR_ex _ (fun d ys => QD d (ρ2.set i (.own ys)))
@[simp] theorem Wp_lenO (i : Nat) : Wp (lenO i) ρ QD X = Wp (getO i) ρ (fun xs ρ0 => QD (.int xs.length) ρ0) X := by simp [lenO]
theorem Wp_mF {d : D} {QL : D → DL.Env → Prop} : Wp (match d with | .ins c' ns ds => if c' = c then liftM (fldD f ns ds) else stuckM | _ => stuckM) ρ QL X = ∃ z, getF c f d = some z ∧ QL z ρ := by
  cases d with
  | ins c' ns ds =>
    by_cases h : c' = c
    · simp [getF, h]
    · simp [getF, h]
  | _ => simp [getF]
@[simp] theorem Wp_fldM (c f : Str) (fo : M D) : Wp (fldM c f fo) ρ QD X = Wp fo ρ (fun d ρ' => ∃ z, getF c f d = some z ∧ QD z ρ') X := by
  unfold fldM
  rw [Wp_bind]
  congr 1
  funext d ρ'
  exact Wp_mF
/-! calls -/
@[simp] theorem Wp_mdM (md : List Bool) (fa : M (List Ag)) : Wp (mdM md fa) ρ QA X = Wp fa ρ (fun ags ρ1 => (ags.map (toSl ρ1)).map isOwn = md ∧ QA ags ρ1) X := by
  unfold mdM
  rw [Wp_bind]
  congr 1
  funext ags ρ1
  unfold Wp
  by_cases h : (ags.map (toSl ρ1)).map isOwn = md
  · simp only [h, if_true, true_and]
  · simp only [h, if_false, false_and]
@[simp] theorem Wp_callM (f : Fn) (fa : M (List Ag)) : Wp (callM f fa) ρ QD X = Wp fa ρ (fun ags ρ1 => (slots ags).Nodup ∧ Fp (f (ags.map (toSl ρ1))) (fun d os => QD d (putBack ags os ρ1)) (fun c os => X c (putBack ags os ρ1))) X := by
  unfold callM
  rw [Wp_bind]
  congr 1
  funext ags ρ1
  unfold Wp Fp
  by_cases h : (slots ags).Nodup
  · simp only [h, if_true, true_and]
    cases f (ags.map (toSl ρ1)) <;> rfl
  · simp only [h, if_false, false_and]
@[simp] theorem Wp_callL (f : Fn) (fa : M (List Ag)) : Wp (callL f fa) ρ QL X = Wp (callM f fa) ρ (fun d ρ' => ∃ ds, d = .lst ds ∧ QL ds ρ') X := by
  unfold callL
  rw [Wp_bind]
  congr 1
  funext d ρ'
  cases d <;> simp
theorem Wp_mM {d : D} {c nm : Str} {md : List Bool} {f : Fn} {fa : M (List Ag)} : Wp (match d with | .ins c' ns ds => if c' = c ∧ nm ∉ ns then callM f (mdM md (bindM fa fun ags => pureM (.d (.ins c' ns ds) :: ags))) else stuckM | _ => stuckM) ρ QD X = (isIns c nm d = true ∧ Wp (callM f (mdM md (bindM fa fun ags => pureM (.d d :: ags)))) ρ QD X) := by
  cases d with
  | ins c' ns ds =>
    by_cases h : c' = c ∧ nm ∉ ns
    · simp only [isIns, h, not_false_eq_true, and_self, if_true, decide_true, true_and]
    · simp only [isIns, h, if_false, decide_false, Wp_stuck, Bool.false_eq_true, false_and]
  | _ => simp [isIns]
@[simp] theorem Wp_methD (c nm : Str) (md : List Bool) (f : Fn) (fo : M D) (fa : M (List Ag)) : Wp (methD c nm md f fo fa) ρ QD X = Wp fo ρ (fun d ρ' => isIns c nm d = true ∧ Wp (callM f (mdM md (bindM fa fun ags => pureM (.d d :: ags)))) ρ' QD X) X := by
  unfold methD
  rw [Wp_bind]
  congr 1
  funext d ρ'
  exact Wp_mM
@[simp] theorem Wp_makeM (n : Nat) (fI : List D → Res D) (fa : M (List D)) : Wp (makeM n fI fa) ρ QD X = Wp fa ρ (fun as ρ1 => (as.length = n ∧ noInsL as = true) ∧ (match fI as with | .ok d _ => QD d ρ1 | .exc e _ => X e ρ1 | .stuck => False)) X := by
  unfold makeM
  rw [Wp_bind]
  congr 1
  funext as ρ1
  unfold Wp
  by_cases h : as.length = n ∧ noInsL as = true
  · simp only [h, and_self, if_true, true_and]
    cases fI as <;> rfl
  · simp only [h, if_false, false_and]
/-! statements -/
@[simp] theorem Wp_seqM (a b : MS) : Wp (seqM a b) ρ QF X = Wp a ρ (fun fl ρ' => match fl with | .nx => Wp b ρ' QF X | .ret d => QF (.ret d) ρ' | .brk => QF .brk ρ' | .ct => QF .ct ρ') X := by
  unfold Wp
  rw [seqM_ap]
  cases a ρ with
  | ok fl ρ' => cases fl <;> rfl
  | _ => rfl
@[simp] theorem Wp_skipM : Wp skipM ρ QF X = QF .nx ρ := by unfold Wp; rfl
@[simp] theorem Wp_setM (i : Nat) (f : M D) : Wp (setM i f) ρ QF X = Wp f ρ (fun d ρ' => QF .nx (ρ'.set i (.d d))) X := by unfold setM; rw [Wp_bind]; unfold Wp; rfl
@[simp] theorem Wp_setOM (i : Nat) (f : M (List D)) : Wp (setOM i f) ρ QF X = Wp f ρ (fun d ρ' => QF .nx (ρ'.set i (.own d))) X := by unfold setOM; rw [Wp_bind]; unfold Wp; rfl
@[simp] theorem Wp_setCM (i : Nat) (f : M OC) : Wp (setCM i f) ρ QF X = Wp f ρ (fun d ρ' => QF .nx (ρ'.set i (.cell d))) X := by unfold setCM; rw [Wp_bind]; unfold Wp; rfl
@[simp] theorem Wp_setXM (i : Nat) (f : M D) : Wp (setXM i f) ρ QF X = Wp f ρ (fun d ρ' => match conOf d with | some c => QF .nx (ρ'.set i (.cell c)) | none => QF .nx (ρ'.set i (.d d))) X := by
  unfold setXM
  rw [Wp_bind]
  congr 1
  funext d ρ'
  unfold Wp
  cases conOf d <;> rfl
@[simp] theorem Wp_dropM (f : M D) : Wp (dropM f) ρ QF X = Wp f ρ (fun d ρ' => QF .nx ρ') X := by unfold dropM; rw [Wp_bind]; unfold Wp; rfl
@[simp] theorem Wp_retM (f : M D) : Wp (retM f) ρ QF X = Wp f ρ (fun d ρ' => QF (.ret d) ρ') X := by unfold retM; rw [Wp_bind]; unfold Wp; rfl
@[simp] theorem Wp_retOM (f : M (List D)) : Wp (retOM f) ρ QF X = Wp f ρ (fun d ρ' => QF (.ret (.lst d)) ρ') X := by unfold retOM; rw [Wp_bind]; unfold Wp; rfl
@[simp] theorem Wp_retXM (f : M D) : Wp (retXM f) ρ QF X = Wp f ρ (fun d ρ' => conOf d = none ∧ QF (.ret d) ρ') X := by
  unfold retXM
  rw [Wp_bind]
  congr 1
  funext d ρ'
  unfold Wp
  cases conOf d with
  | none => simp
  | some c => simp
@[simp] theorem Wp_ifM (c : M Bool) (a b : MS) : Wp (ifM c a b) ρ QF X = Wp c ρ (fun t ρ' => if t = true then Wp a ρ' QF X else Wp b ρ' QF X) X := by
  unfold ifM
  rw [Wp_bind]
  congr 1
  funext d ρ'
  cases d <;> simp
@[simp] theorem Wp_raiseM (c : Str) : Wp (raiseM c) ρ QF X = X c ρ := by unfold Wp; rfl
@[simp] theorem Wp_giveM (i : Nat) : Wp (giveM i) ρ QL X = ∃ x, ρ[i]? = some (.own x) ∧ QL x (ρ.set i .no) := by
  unfold giveM
  rw [Wp_bind, Wp_getO]; unfold Wp; rfl
@[simp] theorem Wp_giveX (i : Nat) : Wp (giveX i) ρ QD X = ∃ x, ρ[i]? = some (.cell x) ∧ QD (ocD x) (ρ.set i .no) := by
  unfold giveX
  rw [Wp_bind, Wp_getC]; unfold Wp; rfl
@[simp] theorem Wp_setIM (i : Nat) (fk fe : M D) : Wp (setIM i fk fe) ρ QF X = Wp fe ρ (fun d ρ1 => Wp (getO i) ρ1 (fun _ ρ2 => Wp fk ρ2 (fun z ρ3 => Wp (getO i) ρ3 (fun xs ρ4 => ∃ ys, ixSet xs z d = some ys ∧ QF .nx (ρ4.set i (.own ys))) X) X) X) X := by simp [setIM]
@[simp] theorem Wp_setGM (g : OC → D → D → Option OC) (i : Nat) (fk fe : M D) : Wp (setGM g i fk fe) ρ QF X = Wp fe ρ (fun d ρ1 => Wp (getC i) ρ1 (fun _ ρ2 => Wp fk ρ2 (fun z ρ3 => Wp (getC i) ρ3 (fun c ρ4 => ∃ c', g c z d = some c' ∧ QF .nx (ρ4.set i (.cell c'))) X) X) X) X := by simp [setGM]
@[simp] theorem Wp_forD (it : M (List D)) (tg : TgF) (body : MS) : Wp (forD it tg body) ρ QF X = Wp it ρ (fun xs ρ' => Wp (forM tg body xs) ρ' QF X) X := by unfold forD; rw [Wp_bind]
@[simp] theorem Wp_forN (tg : TgF) (body : MS) : Wp (forM tg body []) ρ QF X = QF .nx ρ := by unfold Wp; rfl
theorem Wp_forC (tg : TgF) (body : MS) (x : D) (xs : List D) : Wp (forM tg body (x :: xs)) ρ QF X = ∃ ρ1, tg x ρ = some ρ1 ∧ Wp body ρ1 (fun fl ρ2 => match fl with | .nx => Wp (forM tg body xs) ρ2 QF X | .ct => Wp (forM tg body xs) ρ2 QF X | .brk => QF .nx ρ2 | .ret d => QF (.ret d) ρ2) X := by
  unfold Wp
  conv => lhs; unfold forM
  cases e : tg x ρ with
  | none => simp
  | some ρ1 =>
    simp only [Option.some.injEq, exists_eq_left']
    cases body ρ1 with
    | ok fl ρ2 => cases fl <;> rfl
    | _ => rfl
@[simp] theorem Wp_asgM (f : M D) (t : TgF) : Wp (asgM f t) ρ QF X = Wp f ρ (fun d ρ' => ∃ ρ2, t d ρ' = some ρ2 ∧ QF .nx ρ2) X := by
  unfold asgM
  rw [Wp_bind]
  congr 1
  funext d ρ'
  unfold Wp
  dsimp only
  cases t d ρ' with
  | none => simp
  | some ρ2 => simp
@[simp] theorem Wp_parM (i j : Nat) (f : M (List D)) : Wp (parM i j f) ρ QF X = Wp f ρ (fun ds ρ' => ∃ x y, ds = [x, y] ∧ QF .nx ((ρ'.set i (.d x)).set j (.d y))) X := by
  unfold parM
  rw [Wp_bind]
  congr 1
  funext ds ρ'
  unfold Wp
  dsimp only
  match ds with
  | [] => simp
  | [_] => simp
  | [_, _] => exact propext ⟨fun h => ⟨_, _, rfl, h⟩, fun ⟨_, _, e, h⟩ => by cases e; exact h⟩
  | _ :: _ :: _ :: _ => simp
theorem Wp_mC {x y : D} {g : D → D → Option D} {fc : M D} {g' : D → D → Option D} : Wp (bindM (liftM (g x y)) fun z => match z with | .bl true => bindM fc fun w => liftM (g' y w) | .bl false => pureM (.bl false) | _ => stuckM) ρ QD X = ∃ c, g x y = some c ∧ isBl c ∧ if blOf c = true then Wp fc ρ (fun z ρ3 => ∃ u, g' y z = some u ∧ QD u ρ3) X else QD (.bl false) ρ := by
  rw [Wp_bind, Wp_lift]
  cases g x y with
  | none => simp
  | some d =>
    cases d with
    | bl b => cases b <;> simp [isBl]
    | _ => simp [isBl]
@[simp] theorem Wp_chainM (g g' : D → D → Option D) (fa fb fc : M D) : Wp (chainM g g' fa fb fc) ρ QD X = Wp fa ρ (fun x ρ1 => Wp fb ρ1 (fun y ρ2 => ∃ c, g x y = some c ∧ isBl c ∧ if blOf c = true then Wp fc ρ2 (fun z ρ3 => ∃ u, g' y z = some u ∧ QD u ρ3) X else QD (.bl false) ρ2) X) X := by
  unfold chainM
  rw [Wp_bind]
  congr 1
  funext x ρ1
  rw [Wp_bind]
  congr 1
  funext y ρ2
  exact Wp_mC
@[simp] theorem Wp_pairsN (QP : List (D × D) → DL.Env → Prop) : Wp (pairsM []) ρ QP X = QP [] ρ := by unfold Wp; rfl
@[simp] theorem Wp_pairsC (fk fv : M D) (r : List (M D × M D)) (QP : List (D × D) → DL.Env → Prop) : Wp (pairsM ((fk, fv) :: r)) ρ QP X = Wp fk ρ (fun x ρ1 => Wp fv ρ1 (fun y ρ2 => Wp (pairsM r) ρ2 (fun ps ρ3 => QP ((x, y) :: ps) ρ3) X) X) X := by
  show Wp (bindM fk _) ρ QP X = _
  simp
@[simp] theorem Wp_dicC (fs : List (M D × M D)) : Wp (dicC fs) ρ QC X = Wp (pairsM fs) ρ (fun ps ρ1 => (difK (ps.map (·.1)) = true ∧ ps.length ≤ 15) ∧ QC (.k (ps.map (·.1)) (ps.map (·.2))) ρ1) X := by
  unfold dicC
  rw [Wp_bind]
  congr 1
  funext ps ρ1
  rw [Wp_ite, Wp_pure]
@[simp] theorem Wp_dicM (fs : List (M D × M D)) : Wp (dicM fs) ρ QD X = Wp (pairsM fs) ρ (fun ps ρ1 => (difK (ps.map (·.1)) = true ∧ ps.length ≤ 15) ∧ QD (.dic (ps.map (·.1)) (ps.map (·.2))) ρ1) X := by
  unfold dicM
  rw [Wp_bind]
  congr 1
  funext ps ρ1
  rw [Wp_ite, Wp_pure]
@[simp] theorem Wp_lendM (f : M D) : Wp (lendM f) ρ QD X = Wp f (dataE ρ) (fun d _ => atomD d = true ∧ QD d ρ) noX := by
  unfold Wp lendM
  cases f (dataE ρ) with
  | ok d ρ' =>
    dsimp only
    by_cases h : atomD d = true
    · simp [h]
    · simp [h]
  | _ => rfl
@[simp] theorem Wp_lendT (f : M Bool) : Wp (lendT f) ρ QB X = Wp f (dataE ρ) (fun b _ => QB b ρ) noX := by
  unfold Wp lendT
  cases f (dataE ρ) <;> rfl
@[simp] theorem Wp_exnM (i : Nat) (g : Str → Option Bool) : Wp (exnM i g) ρ QD X = ∃ c, ρ[i]? = some (.exn c) ∧ ∃ z, (g c).map D.bl = some z ∧ QD z ρ := by
  unfold Wp exnM
  cases e : ρ[i]? with
  | none => simp
  | some s =>
    cases s with
    | exn c =>
      dsimp only
      cases hg : g c with
      | none => simp [hg]
      | some b => cases b <;> simp [hg]
    | _ => simp
@[simp] theorem Wp_tryM (i : Nat) (sub : Str → Option Bool) (body : MS) (suite : Str → MS) : Wp (tryM i sub body suite) ρ QF X = Wp body ρ QF (fun c ρ1 => (sub c = some true ∧ Wp (suite c) (ρ1.set i (.exn c)) (fun fl ρ2 => noExn (ρ2.set i .no) = true ∧ QF fl (ρ2.set i .no)) noX) ∨ (sub c = some false ∧ X c ρ1)) := by
  unfold Wp tryM
  cases e : body ρ with
  | exc c ρ1 =>
    dsimp only
    cases h : sub c with
    | none => simp
    | some b =>
      cases b with
      | true =>
        dsimp only
        cases h2 : suite c (ρ1.set i (.exn c)) with
        | ok fl ρ2 =>
          dsimp only
          by_cases h3 : noExn (ρ2.set i .no) = true
          · simp [h3]
          · simp [h3]
        | _ => simp
      | false => simp
  | _ => rfl
end
/-- a def by its body -/
theorem Fp_fnM {rm : Bool} {n : Nat} {body : MS} {ρ : DL.Env} {P : D → List OC → Prop} {Y : Str → List OC → Prop} : Fp (fnM rm n body ρ) P Y = Wp body (ρ ++ List.replicate (n - ρ.length) .no) (fun fl ρ' => match fl with | .nx => rm = false ∧ P .non (collect ρ ρ') | .ret d => P d (collect ρ ρ') | _ => False) (fun c ρ' => Y c (collect ρ ρ')) := by
  unfold Fp Wp
  rw [fnM_ap]
  cases body (ρ ++ List.replicate (n - ρ.length) .no) with
  | ok fl ρ' =>
    cases fl with
    | nx => cases rm <;> simp
    | ret d => rfl
    | _ => rfl
  | _ => rfl
/-- a; then b, with what holds between -/
theorem Wp_cut {a b : MS} {ρ : DL.Env} {QF : Flow → DL.Env → Prop} {X : Str → DL.Env → Prop} (R : DL.Env → Prop) (h : ∀ N : DL.Env → Prop, (∀ ρ', R ρ' → N ρ') → Wp a ρ (fun fl ρ' => fl = .nx ∧ N ρ') X) (h2 : ∀ ρ', R ρ' → Wp b ρ' QF X) : Wp (seqM a b) ρ QF X := by
  rw [Wp_seqM]
  exact Wp_mono (h R fun _ z => z) (fun fl ρ' ⟨e, r⟩ => by subst e; exact h2 ρ' r) fun _ _ z => z
end DL
end
section
namespace DL
open PySem PySem.Spec L2 DLS
open PyProof.Rows hiding St
@[simp] theorem putBack_sl (i : Nat) (r : List Ag) (o : OC) (os : List OC) (ρ : DL.Env) : putBack (.sl i :: r) (o :: os) ρ = (match ρ.getD i .no with | .cell _ => putBack r os (ρ.set i (.cell o)) | _ => putBack r (o :: os) ρ) := by
  show (match ρ.getD i .no, o :: os with | .cell _, o :: os' => putBack r os' (ρ.set i (.cell o)) | _, os => putBack r os ρ) = _
  cases ρ.getD i .no <;> rfl
theorem rg1_nat' (n : Nat) (h : n ≤ 1000000) : rg1 [.int n] = some ((List.range n).map fun (i : Nat) => D.int (i : Int)) := by
  rw [rg1_nat n h]
  simp
section
variable {ρ : DL.Env} {X : Str → DL.Env → Prop} {QF : Flow → DL.Env → Prop} {QL : List D → DL.Env → Prop}
/-- for x in xs -/
theorem Wp_forT {α : Type} {e : α → D} {tg : TgF} {body : MS} (R : List α → DL.Env → Prop) (xs : List α) (r : R [] ρ)
    (h : ∀ pre x post ρ, xs = pre ++ x :: post → R pre ρ → ∀ N : DL.Env → Prop, (∀ ρ', R (pre ++ [x]) ρ' → N ρ') → ∃ ρ1, tg (e x) ρ = some ρ1 ∧ Wp body ρ1 (fun fl ρ2 => match fl with | .nx => N ρ2 | .ct => N ρ2 | .ret d => QF (.ret d) ρ2 | .brk => QF .nx ρ2) X)
    (fin : ∀ ρ', R xs ρ' → QF .nx ρ') : Wp (forM tg body (xs.map e)) ρ QF X := by
  have go : ∀ (post pre : List α) (ρ : DL.Env), xs = pre ++ post → R pre ρ → Wp (forM tg body (post.map e)) ρ QF X := by
    intro post
    induction post with
    | nil =>
      intro pre ρ ea r
      rw [List.append_nil] at ea
      subst ea
      rw [List.map_nil, Wp_forN]; exact fin _ r
    | cons x post ih =>
      intro pre ρ ea r
      rw [List.map_cons, Wp_forC]
      obtain ⟨ρ1, h1, h2⟩ := h pre x post ρ ea r (R (pre ++ [x])) fun _ z => z
      refine ⟨ρ1, h1, Wp_mono h2 ?_ fun _ _ z => z⟩
      intro fl ρ2 h3
      cases fl with
      | nx => exact ih (pre ++ [x]) ρ2 (by rw [ea]; simp) h3
      | ct => exact ih (pre ++ [x]) ρ2 (by rw [ea]; simp) h3
      | ret d => exact h3
      | brk => exact h3
  exact go xs [] ρ rfl r
/-- for k in range(n) -/
theorem Wp_forR {tg : TgF} {body : MS} (R : Nat → DL.Env → Prop) (n : Nat) (r : R 0 ρ)
    (h : ∀ k ρ, k < n → R k ρ → ∀ N : DL.Env → Prop, (∀ ρ', R (k + 1) ρ' → N ρ') → ∃ ρ1, tg (.int k) ρ = some ρ1 ∧ Wp body ρ1 (fun fl ρ2 => match fl with | .nx => N ρ2 | .ct => N ρ2 | .ret d => QF (.ret d) ρ2 | .brk => QF .nx ρ2) X)
    (fin : ∀ ρ', R n ρ' → QF .nx ρ') : Wp (forM tg body ((List.range n).map fun (i : Nat) => D.int (i : Int))) ρ QF X := by
  have rl : ∀ (pre : List Nat) (x : Nat) (post : List Nat), List.range n = pre ++ x :: post → x = pre.length ∧ x < n := fun pre x post ea => by
    have h1 : (List.range n)[pre.length]? = some x := by rw [ea]; simp
    have h2 : pre.length < n := by have := congrArg List.length ea; simp at this; omega
    rw [List.getElem?_range h2] at h1
    have := Option.some.inj h1
    omega
  refine Wp_forT (fun pre ρ => R pre.length ρ) (List.range n) r ?_ ?_
  · intro pre x post ρ ea r N hN
    obtain ⟨e, hx⟩ := rl pre x post ea
    have el : (pre ++ [x]).length = x + 1 := by rw [List.length_append, e]; rfl
    exact h x ρ hx (by rw [e]; exact r) N fun ρ' z => hN ρ' (by rw [el]; exact z)
  · intro ρ' r
    rw [List.length_range] at r
    exact fin _ r
/-- [te for x in xs if tt] -/
theorem Wp_compO {α β : Type} {e : α → D} {e' : β → D} {it : M (List D)} {tg : TgF} {tt : M Bool} {te : M D} {vs : List Nat} (R : List α → List β → DL.Env → Prop) (xs : List α)
    (hit : ∀ N : List D → DL.Env → Prop, (∀ ρ, plainB vs ρ = true ∧ R [] [] (wipeE ρ vs) ∧ (∀ ys ρ', R xs ys ρ' → QL (ys.map e') (restE ρ ρ' vs)) → N (xs.map e) ρ) → Wp it ρ N X)
    (h : ∀ pre x post acc ρ, xs = pre ++ x :: post → R pre acc ρ → ∀ (Y : D → DL.Env → Prop) (N : DL.Env → Prop), (∀ d ρ3, (∃ b, d = e' b ∧ plainB vs ρ3 = true ∧ R (pre ++ [x]) (acc ++ [b]) (wipeE ρ3 vs)) → Y d ρ3) → (∀ ρ2, plainB vs ρ2 = true ∧ R (pre ++ [x]) acc (wipeE ρ2 vs) → N ρ2) → ∃ ρ1, tg (e x) ρ = some ρ1 ∧ Wp tt ρ1 (fun t ρ2 => if t = true then acc.length < sizeLine ∧ Wp te ρ2 Y noX else N ρ2) noX) :
    Wp (compO it tg tt te vs) ρ QL X := by
  unfold compO
  rw [Wp_bind]
  refine Wp_mono (hit (fun ds ρ => ds = xs.map e ∧ plainB vs ρ = true ∧ R [] [] (wipeE ρ vs) ∧ ∀ ys ρ', R xs ys ρ' → QL (ys.map e') (restE ρ ρ' vs)) fun ρ z => ⟨rfl, z⟩) ?_ fun _ _ z => z
  rintro ds ρ0 ⟨rfl, hp, r, fin⟩
  have := compGo_pre (e := e) (e' := e') (tg := tg) (tt := tt) (te := te) (vs := vs) R xs (fun pre x post acc ρ ea r => by
    obtain ⟨ρ1, h1, h2⟩ := h pre x post acc ρ ea r _ _ (fun _ _ z => z) (fun _ z => z)
    obtain ⟨t, ρ2, h3, h4⟩ := Wp_ok h2
    cases t with
    | true =>
      rw [if_pos rfl] at h4
      obtain ⟨hz, h5⟩ := h4
      obtain ⟨d, ρ3, h6, b, h7, h8, h9⟩ := Wp_ok h5
      subst h7
      exact ⟨ρ1, ρ3, acc ++ [b], h1, item_t h3 h6 hz, h8, h9⟩
    | false =>
      rw [if_neg (by decide)] at h4
      obtain ⟨h5, h6⟩ := h4
      exact ⟨ρ1, ρ2, acc, h1, item_f h3, h5, h6⟩) xs [] [] (wipeE ρ0 vs) rfl r
  obtain ⟨ys, ρ', h1, h2⟩ := this
  unfold Wp
  dsimp only
  rw [if_pos hp]
  have h1 : compGo tg tt te vs [] (xs.map e) (wipeE ρ0 vs) = _ := h1
  rw [h1]
  exact fin _ _ h2
end
theorem ninX_ex {α : Type} [Kl α] [DecidableEq α] (a : α) (xs : List α) : ∃ b, ninX (enc a) (.lst (xs.map enc)) = some (.bl b) ∧ (b = true ↔ a ∉ xs) := ⟨_, ninX_lst a xs, by simp⟩
theorem nat_lt_sz {n : Nat} (h : n ≤ 999) : n < sizeLine := Nat.lt_of_le_of_lt h (by rw [sizeLine_eq]; decide)
theorem app_ap {α : Type} (e : α → D) (xs : List α) (x : α) (h : xs.length ≤ 999) : appD (xs.map e) [e x] = some (.non, (xs ++ [x]).map e) := by
  unfold appD
  rw [List.map_append, List.length_map]
  dsimp only
  rw [if_pos (nat_lt_sz h)]; rfl
section
variable {ρ : DL.Env} {X : Str → DL.Env → Prop} {QF : Flow → DL.Env → Prop}
end
@[simp] theorem Wp_mtV (T : String) (g : D → List D → Option D) (fo : M D) (fa : M (List D)) {ρ : DL.Env} {X : Str → DL.Env → Prop} {QD : D → DL.Env → Prop} : Wp (mtV T g fo fa) ρ QD X = Wp fo ρ (fun d ρ1 => tyD T d = true ∧ Wp fa ρ1 (fun xs ρ2 => ∃ z, g d xs = some z ∧ QD z ρ2) X) X := by
  unfold mtV tyM
  simp only [Wp_bind, Wp_ite, Wp_pure, Wp_lift]
/-! a tuple whose last is a container of the def's own -/
@[simp] theorem splitA_sl (i : Nat) : splitA [.sl i] = some ([], i) := rfl
@[simp] theorem splitA_d (x : D) (r : List Ag) : splitA (.d x :: r) = (splitA r).map fun z => (x :: z.1, z.2) := by
  cases r <;> rfl
def spR : Option (List D × Nat) → (List D → Nat → Prop) → Prop
  | some z, P => P z.1 z.2
  | none, _ => False
@[simp] theorem spR_some (xs : List D) (i : Nat) (P : List D → Nat → Prop) : spR (some (xs, i)) P = P xs i := rfl
@[simp] theorem spR_map (o : Option (List D × Nat)) (x : D) (P : List D → Nat → Prop) : spR (o.map fun z => (x :: z.1, z.2)) P = spR o fun xs i => P (x :: xs) i := by cases o <;> rfl
@[simp] theorem Wp_tupT (i : Nat) (fa : M (List Ag)) {ρ : DL.Env} {X : Str → DL.Env → Prop} {QD : D → DL.Env → Prop} : Wp (tupT i fa) ρ QD X = Wp fa ρ (fun ags ρ1 => spR (splitA ags) fun xs j => j = i ∧ ags.length ≤ sizeLine ∧ ∃ c, ρ1[i]? = some (.cell c) ∧ QD (.tup (xs ++ [ocD c])) (ρ1.set i .no)) X := by
  unfold tupT
  rw [Wp_bind]
  congr 1
  funext ags ρ1
  unfold Wp
  cases splitA ags with
  | none => rfl
  | some z =>
    show _ = (z.2 = i ∧ ags.length ≤ sizeLine ∧ ∃ c, ρ1[i]? = some (.cell c) ∧ QD (.tup (z.1 ++ [ocD c])) (ρ1.set i .no))
    by_cases h : z.2 = i ∧ ags.length ≤ sizeLine
    · simp only [h, and_self, if_true]
      cases e : ρ1[i]? with
      | none => simp
      | some s => cases s <;> simp
    · simp only [h, if_false]
      simp
      intro a b
      exact absurd ⟨a, b⟩ h
@[simp] theorem Wp_asgX (n : Nat) (f : M D) (t : TgxF) {ρ : DL.Env} {X : Str → DL.Env → Prop} {QF : Flow → DL.Env → Prop} : Wp (asgX n f t) ρ QF X = Wp f ρ (fun d ρ1 => ∃ z, splitT d = some z ∧ z.1.length + 1 = n ∧ ∃ ρ2, t z.1 z.2 ρ1 = some ρ2 ∧ QF .nx ρ2) X := by
  unfold asgX
  rw [Wp_bind]
  congr 1
  funext d ρ1
  unfold Wp
  cases splitT d with
  | none => simp
  | some z =>
    by_cases h : z.1.length + 1 = n
    · simp only [h, if_true]
      cases e : t z.1 z.2 ρ1 with
      | none => simp [h, e]
      | some s => simp [h, e]
    · simp [h]
end DL
end
section
/-! names of kin: cells, steps and sides taken over -/
namespace DL
open PySem PySem.Spec L2 DLS
open PyProof.Rows hiding St
structure Nm where
  x : Bool
  f : Bool
  q : Fin 4
  deriving DecidableEq
def nmL : List Str := ["turn0", "turn1", "turn2", "turn3", "flip0", "flip1", "flip2", "flip3", "xturn0", "xturn1", "xturn2", "xturn3", "xflip0", "xflip1", "xflip2", "xflip3"]
def nmS (n : Nm) : Str := nmL.getD ((if n.x then 8 else 0) + (if n.f then 4 else 0) + n.q.val) ""
def nms : List Nm := [⟨false, false, 0⟩, ⟨false, false, 1⟩, ⟨false, false, 2⟩, ⟨false, false, 3⟩, ⟨false, true, 0⟩, ⟨false, true, 1⟩, ⟨false, true, 2⟩, ⟨false, true, 3⟩, ⟨true, false, 0⟩, ⟨true, false, 1⟩, ⟨true, false, 2⟩, ⟨true, false, 3⟩, ⟨true, true, 0⟩, ⟨true, true, 1⟩, ⟨true, true, 2⟩, ⟨true, true, 3⟩]
theorem nm_ind {P : Nm → Prop} (h : ∀ x f, P ⟨x, f, 0⟩ ∧ P ⟨x, f, 1⟩ ∧ P ⟨x, f, 2⟩ ∧ P ⟨x, f, 3⟩) : ∀ n, P n := fun n => by
  obtain ⟨x, f, q, hq⟩ := n
  obtain ⟨h0, h1, h2, h3⟩ := h x f
  match q, hq with
  | 0, _ => exact h0
  | 1, _ => exact h1
  | 2, _ => exact h2
  | 3, _ => exact h3
theorem nmS_inj : ∀ a b : Nm, nmS a = nmS b → a = b := by
  refine nm_ind fun x f => ⟨?_, ?_, ?_, ?_⟩ <;> refine nm_ind fun x2 f2 => ⟨?_, ?_, ?_, ?_⟩ <;> revert x f x2 f2 <;> decide
instance : Kl Nm where
  nk := fun n => .text (nmS n)
  inj := fun a b h => nmS_inj a b (by injection h)
  ok := nm_ind fun x f => by cases x <;> cases f <;> exact ⟨by kernel_rfl, by kernel_rfl, by kernel_rfl, by kernel_rfl⟩
  dp := 0
  dep := fun _ => Nat.le_refl _
  le := by decide
  alk := fun _ _ => rfl
  nn := fun _ => rfl
  tn := .inr fun _ => rfl
abbrev encN (n : Nm) : D := enc n
theorem exch_ap : ∀ n : Nm, Mi.is_exchanged [.d (encN n)] = .ok (.bl n.x) [] := nm_ind fun x f => by cases x <;> cases f <;> exact ⟨by kernel_rfl, by kernel_rfl, by kernel_rfl, by kernel_rfl⟩
theorem quart_ap : ∀ n : Nm, Mi.quarters [.d (encN n)] = .ok (.int (n.q.val : Int)) [] := nm_ind fun x f => by cases x <;> cases f <;> exact ⟨by kernel_rfl, by kernel_rfl, by kernel_rfl, by kernel_rfl⟩
def qstep : Nat → Int → Int → Cell → Cell
  | 0, _, _, c => c
  | k + 1, h, w, c => qstep k w h (c.2, h - 1 - c.1)
def cellOv (h w : Int) (n : Nm) (c : Cell) : Cell := qstep n.q.val h w (if n.f = true then (c.1, w - 1 - c.2) else c)
theorem cell_over_ap (y : Yd) (c : Cell) : ∀ n : Nm, Mi.cell_over [.d (encY y), .d (encN n), .d (enc c)] = .ok (enc (cellOv y.h y.w n c)) [] := nm_ind fun x f => by cases x <;> cases f <;> exact ⟨by kernel_rfl, by kernel_rfl, by kernel_rfl, by kernel_rfl⟩
def qstepS : Nat → Cell → Cell
  | 0, c => c
  | k + 1, c => qstepS k (c.2, 0 - c.1)
def stepOv (n : Nm) (c : Cell) : Cell := if n.x = true then (0 - (qstepS n.q.val (if n.f = true then (c.1, 0 - c.2) else c)).1, 0 - (qstepS n.q.val (if n.f = true then (c.1, 0 - c.2) else c)).2) else qstepS n.q.val (if n.f = true then (c.1, 0 - c.2) else c)
theorem step_over_ap (c : Cell) : ∀ n : Nm, Mi.step_over [.d (encN n), .d (enc c)] = .ok (enc (stepOv n c)) [] := nm_ind fun x f => by cases x <;> cases f <;> exact ⟨by kernel_rfl, by kernel_rfl, by kernel_rfl, by kernel_rfl⟩
def sideOv (n : Nm) (s : Int) : Int := if n.x = true then 1 - s else s
end DL
end
section
namespace DL
open PySem PySem.Spec L2 DLS
open PyProof.Rows hiding St
/-! ### refusals -/
section
variable {y : Yd} {s : Int} {p : Pos}
end
end DL
end
section
/-! names of kin that a yard bears, positions and moves taken over -/
namespace DL
open PySem PySem.Spec L2 DLS
open PyProof.Rows hiding St
def co_c0 : M (List D) := compO (itemsGM (getM 2)) (tgN 3) (pureM true) (callM Mi.cell_over (mdM [false, false, false] (consA (getM 0) (consA (getM 1) (consA (getM 3) (pureM [])))))) [3]
theorem co_eq : Mi.cells_over = fnM false 4 (retM (lstM (callO sortG (consM (lstM co_c0) (pureM []))))) := rfl
def ss0_b_b_c0 : M (List D) := compO (itemsGM (getM 3)) (tgN 4) (pureM true) (callM Mi.step_over (mdM [false, false] (consA (getM 1) (consA (getM 4) (pureM []))))) [4]
def ss0_b_b : MS := ifM (boolM (op2 neD (lstM (callO sortG (consM (lstM ss0_b_b_c0) (pureM [])))) (getM 3))) (retM (pureM (.bl false))) skipM
def ss0_b : MS := forD (itemsGM (slM (op2 ixX (fldM "Yard" "kinds" (getM 0)) (getM 2)) (pureM none) (partM (pureM (.int 2))))) (tgN 3) ss0_b_b
def ss0 : MS := forD (itemsGM (fldM "Yard" "kinds" (getM 0))) (tgN 2) ss0_b
def ss1 : MS := retM (pureM (.bl true))
theorem ss_eq : Mi.steps_stay = fnM false 5 (seqM ss0 ss1) := rfl
def gs0_b_0 : MS := setM 3 (iteM (boolM (callM Mi.is_exchanged (mdM [false] (consA (getM 1) (pureM []))))) (op2 subD (pureM (.int 1)) (getM 2)) (getM 2))
def gs0_b_1 : MS := ifM (boolM (op2 neD (callM Mi.cells_over (mdM [false, false, false] (consA (getM 0) (consA (getM 1) (consA (op2 ixX (fldM "Yard" "goals" (getM 0)) (getM 2)) (pureM [])))))) (op2 ixX (fldM "Yard" "goals" (getM 0)) (getM 3)))) (retM (pureM (.bl false))) skipM
def gs0_b : MS := seqM gs0_b_0 gs0_b_1
def gs0 : MS := forD (itemsGM (tupM (consM (pureM (.int 0)) (consM (pureM (.int 1)) (pureM []))))) (tgN 2) gs0_b
def gs1 : MS := retM (pureM (.bl true))
theorem gs_eq : Mi.goals_stay = fnM false 4 (seqM gs0 gs1) := rfl
def ib0 : MS := ifM (andM (boolM (op2 eqD (op2 modD (callM Mi.quarters (mdM [false] (consA (getM 1) (pureM [])))) (pureM (.int 2))) (pureM (.int 1)))) (boolM (op2 neD (fldM "Yard" "height" (getM 0)) (fldM "Yard" "width" (getM 0))))) (retM (pureM (.bl false))) skipM
def ib1 : MS := ifM (boolM (op2 neD (callM Mi.cells_over (mdM [false, false, false] (consA (getM 0) (consA (getM 1) (consA (fldM "Yard" "holes" (getM 0)) (pureM [])))))) (fldM "Yard" "holes" (getM 0)))) (retM (pureM (.bl false))) skipM
def ib2 : MS := retM (andV (callM Mi.steps_stay (mdM [false, false] (consA (getM 0) (consA (getM 1) (pureM []))))) (callM Mi.goals_stay (mdM [false, false] (consA (getM 0) (consA (getM 1) (pureM []))))))
theorem ib_eq : Mi.is_borne = fnM false 2 (seqM ib0 (seqM ib1 ib2)) := rfl
def be_c0 : M (List D) := compO (itemsGM (pureM (.lst ((["turn0", "turn1", "turn2", "turn3", "flip0", "flip1", "flip2", "flip3", "xturn0", "xturn1", "xturn2", "xturn3", "xflip0", "xflip1", "xflip2", "xflip3"] : List Str).map D.str)))) (tgN 1) (boolM (callM Mi.is_borne (mdM [false, false] (consA (getM 0) (consA (getM 1) (pureM [])))))) (getM 1) [1]
theorem be_eq : Mi.bears = fnM true 2 (retM (lstM be_c0)) := rfl
def oo1_c0 : M (List D) := compO (itemsGM (getM 4)) (tgU 3 (tgs1 (tgN 6) (tgs1 (tgN 7) (tgs1 (tgN 8) tgs0)))) (pureM true) (tupM (consM (callM Mi.cell_over (mdM [false, false, false] (consA (getM 0) (consA (getM 1) (consA (getM 6) (pureM [])))))) (consM (callM Mi.side_over (mdM [false, false] (consA (getM 1) (consA (getM 7) (pureM []))))) (consM (getM 8) (pureM []))))) [6, 7, 8]
def oo1 : MS := setOM 5 oo1_c0
section
variable {y : Yd}
def cellsOv (y : Yd) (n : Nm) (L : List Cell) : List Cell := srtE (L.map (cellOv y.h y.w n))
theorem cells_over_ap (n : Nm) (L : List Cell) (hl : L.length ≤ 1000) : Mi.cells_over [.d (encY y), .d (encN n), .d (.lst (L.map enc))] = .ok (.lst ((cellsOv y n L).map enc)) [] := by
  have ca := fun c => cell_over_ap y c n
  have it : itemsGM (getM 2) [.d (encY y), .d (encN n), .d (.lst (L.map enc)), .no] = .ok (L.map enc) [.d (encY y), .d (encN n), .d (.lst (L.map enc)), .no] := by
    generalize L.map enc = LE
    simp
  have c : co_c0 [.d (encY y), .d (encN n), .d (.lst (L.map enc)), .no] = .ok ((L.map (cellOv y.h y.w n)).map enc) [.d (encY y), .d (encN n), .d (.lst (L.map enc)), .no] :=
    comp_map (e := (enc : Cell → D)) (e' := (enc : Cell → D)) L (cellOv y.h y.w n) it rfl (small_le hl) (fun c hc => ⟨[.d (encY y), .d (encN n), .d (.lst (L.map enc)), .d (enc c)], rfl, rfl, rfl, [.d (encY y), .d (encN n), .d (.lst (L.map enc)), .d (enc c)], by
      have q := ca c
      generalize L.map enc = LE
      simp [q], rfl, rfl⟩)
  have so := sortG_enc (L.map (cellOv y.h y.w n))
  have key : Fp (Mi.cells_over [.d (encY y), .d (encN n), .d (.lst (L.map enc))]) (fun d os => d = .lst ((cellsOv y n L).map enc) ∧ os = []) (fun _ _ => False) := by
    rw [co_eq, Fp_fnM]
    unfold cellsOv
    generalize (L.map (cellOv y.h y.w n)).map enc = A at *
    simp [Wp_of c, so]
  obtain ⟨_, _, e, rfl, rfl⟩ := Fp_ok' key
  exact e
def rowSt (n : Nm) (L : List Cell) : Bool := decide (srtE (L.map (stepOv n)) = L)
def rowsSt (n : Nm) (K : Kind) : Bool := rowSt n K.leaps && rowSt n K.rides
def stepsSt (y : Yd) (n : Nm) : Bool := y.kinds.all fun p => rowsSt n (getK y.kinds p.1)
theorem items_kdy (ks : List (Kd × Kind)) : itemsG (kindsD ks) = some (ks.map fun q => enc q.1) := by
  unfold kindsD
  rw [itemsG_dic, if_pos (allK_kd ks)]
theorem look_some {ks : List (Kd × Kind)} {p : Kd × Kind} (h : p ∈ ks) : lookK ks p.1 = some (getK ks p.1) := by
  unfold getK
  cases e : lookK ks p.1 with
  | some K => rfl
  | none =>
    unfold lookK at e
    rw [Option.map_eq_none_iff, List.find?_eq_none] at e
    exact (e p h (by simp)).elim
theorem row_ok (d0 k : D) (n : Nm) (L : List Cell) (hl : L.length ≤ 100) : ss0_b_b_c0 [.d d0, .d (encN n), .d k, .d (.lst (L.map enc)), .no] = .ok ((L.map (stepOv n)).map enc) [.d d0, .d (encN n), .d k, .d (.lst (L.map enc)), .no] := by
  have it : itemsGM (getM 3) [.d d0, .d (encN n), .d k, .d (.lst (L.map enc)), .no] = .ok (L.map enc) [.d d0, .d (encN n), .d k, .d (.lst (L.map enc)), .no] := by
    generalize L.map enc = LE
    simp
  exact comp_map (e := (enc : Cell → D)) (e' := (enc : Cell → D)) L (stepOv n) it rfl (small_le (by omega)) (fun c hc => ⟨[.d d0, .d (encN n), .d k, .d (.lst (L.map enc)), .d (enc c)], rfl, rfl, rfl, [.d d0, .d (encN n), .d k, .d (.lst (L.map enc)), .d (enc c)], by
    have q := step_over_ap c n
    generalize L.map enc = LE
    simp [q], rfl, rfl⟩)
theorem kind_cut (K : Kind) : slD none (some 2) (encK K) = some (.tup [.lst (K.leaps.map enc), .lst (K.rides.map enc)]) := by kernel_rfl
theorem row_wp (d0 k : D) (n : Nm) (L : List Cell) (hl : L.length ≤ 100) {QF : Flow → DL.Env → Prop} {X : Str → DL.Env → Prop} (h1 : rowSt n L = true → QF .nx [.d d0, .d (encN n), .d k, .d (.lst (L.map enc)), .no]) (h2 : rowSt n L = false → QF (.ret (.bl false)) [.d d0, .d (encN n), .d k, .d (.lst (L.map enc)), .no]) : Wp ss0_b_b [.d d0, .d (encN n), .d k, .d (.lst (L.map enc)), .no] QF X := by
  unfold ss0_b_b
  have c := row_ok d0 k n L hl
  have so := sortG_enc (L.map (stepOv n))
  have ne := neD_lst_enc (srtE (L.map (stepOv n))) L
  have er : rowSt n L = decide (srtE (L.map (stepOv n)) = L) := rfl
  rw [← er] at ne
  generalize (L.map (stepOv n)).map enc = A at *
  generalize (srtE (L.map (stepOv n))).map enc = B at *
  generalize L.map enc = C at *
  cases hr : rowSt n L
  · rw [hr] at ne
    simp [Wp_of c, so, ne]
    exact h2 hr
  · rw [hr] at ne
    simp [Wp_of c, so, ne]
    exact h1 hr
theorem steps_stay_ap (hy : YGood y) (n : Nm) : Mi.steps_stay [.d (encY y), .d (encN n)] = .ok (.bl (stepsSt y n)) [] := by
  have gk := getF_ki y
  have ik := items_kdy y.kinds
  have key : Fp (Mi.steps_stay [.d (encY y), .d (encN n)]) (fun d os => d = .bl (stepsSt y n) ∧ os = []) (fun _ _ => False) := by
    rw [ss_eq, Fp_fnM]
    unfold ss0 ss1
    have lk : ∀ p ∈ y.kinds, ixX (kindsD y.kinds) (enc p.1) = some (encK (getK y.kinds p.1)) := fun p hp => ixX_kd _ _ _ (look_some hp)
    have ll : ∀ p ∈ y.kinds, (getK y.kinds p.1).leaps.length ≤ 100 ∧ (getK y.kinds p.1).rides.length ≤ 100 := fun p hp => hy.ll _ _ (look_some hp)
    have fls : ∀ p ∈ y.kinds, rowsSt n (getK y.kinds p.1) = false → stepsSt y n = false := fun p hp e => by
      unfold stepsSt
      rw [List.all_eq_false]
      exact ⟨p, hp, by rw [e]; simp⟩
    have tru : (∀ p ∈ y.kinds, rowsSt n (getK y.kinds p.1) = true) → stepsSt y n = true := fun h => List.all_eq_true.mpr h
    generalize kindsD y.kinds = KD at *
    generalize encY y = EY at *
    simp [gk, ik]
    refine Wp_forT (e := fun q : Kd × Kind => enc q.1) (fun pre ρ => (∀ p ∈ pre, rowsSt n (getK y.kinds p.1) = true) ∧ ∃ s2 s3, ρ = [.d EY, .d (encN n), s2, s3, .no]) y.kinds ⟨by simp, _, _, rfl⟩ ?_ ?_
    · rintro pre p post _ ea ⟨hp, s2, s3, rfl⟩ N hN
      have hin : p ∈ y.kinds := by rw [ea]; simp
      have lk1 := lk p hin
      obtain ⟨l1, l2⟩ := ll p hin
      have fl := fls p hin
      refine ⟨[.d EY, .d (encN n), .d (enc p.1), s3, .no], rfl, ?_⟩
      unfold ss0_b
      have kc := kind_cut (getK y.kinds p.1)
      have hN2 : rowsSt n (getK y.kinds p.1) = true → ∀ s, N [.d EY, .d (encN n), .d (enc p.1), s, .no] := fun h s => by
        refine hN _ ⟨?_, _, _, rfl⟩
        intro z hz
        rcases List.mem_append.mp hz with hz | hz
        · exact hp z hz
        · rw [List.mem_singleton.mp hz]; exact h
      generalize getK y.kinds p.1 = K at *
      generalize enc p.1 = PE at *
      have no : ∀ {s : Sl}, rowsSt n K = false → (DL.D.bl false = .bl (stepsSt y n) ∧ collect [Sl.d EY, .d (encN n)] [.d EY, .d (encN n), .d PE, s, .no] = []) := fun h => ⟨by rw [fl h], rfl⟩
      generalize hke : encK K = KE at *
      simp [gk, lk1, kc]
      rw [Wp_forC]
      refine ⟨[.d EY, .d (encN n), .d PE, .d (.lst (K.leaps.map enc)), .no], rfl, row_wp EY PE n K.leaps l1 (fun h1 => ?_) fun h1 => ?_⟩
      · dsimp only
        rw [Wp_forC]
        refine ⟨[.d EY, .d (encN n), .d PE, .d (.lst (K.rides.map enc)), .no], rfl, row_wp EY PE n K.rides l2 (fun h2 => ?_) fun h2 => ?_⟩
        · dsimp only
          rw [Wp_forN]
          exact hN2 (by unfold rowsSt; rw [h1, h2]; rfl) _
        · dsimp only
          exact no (by unfold rowsSt; rw [h1, h2]; rfl)
      · dsimp only
        exact no (by unfold rowsSt; rw [h1]; rfl)
    · rintro _ ⟨h, s2, s3, rfl⟩
      simp [tru h]
  obtain ⟨_, _, e, rfl, rfl⟩ := Fp_ok' key
  exact e
def goalSt (y : Yd) (n : Nm) (s : Int) : Bool := decide (cellsOv y n (goalsOf y s) = goalsOf y (sideOv n s))
def goalsSt (y : Yd) (n : Nm) : Bool := goalSt y n 0 && goalSt y n 1
theorem goals_stay_ap (hy : YGood y) (n : Nm) : Mi.goals_stay [.d (encY y), .d (encN n)] = .ok (.bl (goalsSt y n)) [] := by
  have gk := getF_go y
  have gx : ∀ s : Int, (s = 0 ∨ s = 1) → ixX (.tup [.lst (y.g0.map enc), .lst (y.g1.map enc)]) (.int s) = some (.lst ((goalsOf y s).map enc)) := fun s hs => goals_at y s hs
  have ex := exch_ap n
  have gl : ∀ s, (goalsOf y s).length ≤ 1000 := fun s => by unfold goalsOf; have := hy.lg; split <;> omega
  have co := fun s => cells_over_ap (y := y) n (goalsOf y s) (gl s)
  have ne : ∀ s, neD (.lst ((cellsOv y n (goalsOf y s)).map enc)) (.lst ((goalsOf y (sideOv n s)).map enc)) = some (.bl (!goalSt y n s)) := fun s => neD_lst_enc _ _
  have step : ∀ (s : Int) (s2 s3 : Sl) (QF : Flow → DL.Env → Prop) (X : Str → DL.Env → Prop), (s = 0 ∨ s = 1) → (∀ s3, (goalSt y n s = true → QF .nx [.d (encY y), .d (encN n), .d (.int s), s3]) ∧ (goalSt y n s = false → QF (.ret (.bl false)) [.d (encY y), .d (encN n), .d (.int s), s3])) → Wp gs0_b [.d (encY y), .d (encN n), .d (.int s), s3] QF X := by
    intro s s2 s3 QF X hs hq
    unfold gs0_b gs0_b_0 gs0_b_1
    have g1 := gx s hs
    have g2 := gx (sideOv n s) (by unfold sideOv; split <;> omega)
    have c1 := co s
    have n1 := ne s
    have es : sideOv n s = if n.x = true then 1 - s else s := rfl
    generalize (cellsOv y n (goalsOf y s)).map enc = A at *
    generalize (goalsOf y (sideOv n s)).map enc = B at *
    generalize (goalsOf y s).map enc = C at *
    generalize encY y = EY at *
    cases hx : n.x
    · rw [hx] at es ex
      have es : sideOv n s = s := es
      rw [es, g1] at g2
      injection g2 with g2
      injection g2 with g2
      subst g2
      cases hg : goalSt y n s
      · rw [hg] at n1
        simp [ex, gk, g1, c1, n1]
        exact (hq _).2 hg
      · rw [hg] at n1
        simp [ex, gk, g1, c1, n1]
        exact (hq _).1 hg
    · rw [hx] at es ex
      have es : sideOv n s = 1 - s := es
      rw [es] at g2
      cases hg : goalSt y n s
      · rw [hg] at n1
        simp [ex, gk, g1, c1, n1, g2]
        exact (hq _).2 hg
      · rw [hg] at n1
        simp [ex, gk, g1, c1, n1, g2]
        exact (hq _).1 hg
  have key : Fp (Mi.goals_stay [.d (encY y), .d (encN n)]) (fun d os => d = .bl (goalsSt y n) ∧ os = []) (fun _ _ => False) := by
    rw [gs_eq, Fp_fnM]
    unfold gs0 gs1
    simp
    rw [Wp_forC]
    refine ⟨_, rfl, step 0 .no _ _ _ (.inl rfl) fun s3 => ⟨fun h0 => ?_, fun h0 => ?_⟩⟩
    · dsimp only
      rw [Wp_forC]
      refine ⟨_, rfl, step 1 .no _ _ _ (.inr rfl) fun s3 => ⟨fun h1 => ?_, fun h1 => ?_⟩⟩
      · dsimp only
        rw [Wp_forN]
        simp
        unfold goalsSt
        rw [h0, h1]; rfl
      · dsimp only
        unfold goalsSt
        rw [h0, h1]
        exact ⟨rfl, rfl⟩
    · dsimp only
      unfold goalsSt
      rw [h0]
      exact ⟨rfl, rfl⟩
  obtain ⟨_, _, e, rfl, rfl⟩ := Fp_ok' key
  exact e
/-- the yard bears the name -/
def bornB (y : Yd) (n : Nm) : Bool := !(decide (n.q.val % 2 = 1) && !decide (y.h = y.w)) && (decide (cellsOv y n y.holes = y.holes) && (stepsSt y n && goalsSt y n))
theorem odd_ap : ∀ n : Nm, Mi.quarters [.d (encN n)] = .ok (.int (n.q.val : Int)) [] ∧ modD (.int (n.q.val : Int)) (.int 2) = some (.int ((n.q.val % 2 : Nat) : Int)) := fun n => ⟨quart_ap n, by
  revert n
  exact nm_ind fun x f => ⟨by kernel_rfl, by kernel_rfl, by kernel_rfl, by kernel_rfl⟩⟩
theorem is_borne_ap (hy : YGood y) (n : Nm) : Mi.is_borne [.d (encY y), .d (encN n)] = .ok (.bl (bornB y n)) [] := by
  obtain ⟨qu, mo⟩ := odd_ap n
  have gh := getF_h y; have gw := getF_w y; have go := getF_ho y
  have co := cells_over_ap (y := y) n y.holes (by have := hy.lh; omega)
  have ne := neD_lst_enc (cellsOv y n y.holes) y.holes
  have ss := steps_stay_ap hy n
  have gs := goals_stay_ap hy n
  have eq1 : eqD (.int ((n.q.val % 2 : Nat) : Int)) (.int 1) = some (.bl (decide (n.q.val % 2 = 1))) := by
    rcases Nat.mod_two_eq_zero_or_one n.q.val with h | h <;> rw [h] <;> kernel_rfl
  have key : Fp (Mi.is_borne [.d (encY y), .d (encN n)]) (fun d os => d = .bl (bornB y n) ∧ os = []) (fun _ _ => False) := by
    rw [ib_eq, Fp_fnM]
    unfold ib0 ib1 ib2 bornB
    generalize ((n.q.val % 2 : Nat) : Int) = Q at *
    generalize decide (n.q.val % 2 = 1) = b1 at *
    generalize decide (cellsOv y n y.holes = y.holes) = b2 at *
    generalize stepsSt y n = b3 at *
    generalize goalsSt y n = b4 at *
    generalize (cellsOv y n y.holes).map enc = A at *
    generalize y.holes.map enc = B at *
    generalize encY y = EY at *
    by_cases hw : y.h = y.w
    · cases b1 <;> cases b2 <;> cases b3 <;> simp [qu, mo, eq1, gh, gw, go, co, ne, ss, gs, hw]
    · cases b1 <;> cases b2 <;> cases b3 <;> simp [qu, mo, eq1, gh, gw, go, co, ne, ss, gs, hw]
  obtain ⟨_, _, e, rfl, rfl⟩ := Fp_ok' key
  exact e
def bearsL (y : Yd) : List Nm := nms.filter (bornB y)
theorem nms_eq : (["turn0", "turn1", "turn2", "turn3", "flip0", "flip1", "flip2", "flip3", "xturn0", "xturn1", "xturn2", "xturn3", "xflip0", "xflip1", "xflip2", "xflip3"] : List Str).map D.str = nms.map enc := by kernel_rfl
theorem bears_ap (hy : YGood y) : Mi.bears [.d (encY y)] = .ok (.lst ((bearsL y).map enc)) [] := by
  have c : be_c0 [.d (encY y), .no] = .ok (((nms.filter (bornB y)).map fun n => n).map enc) [.d (encY y), .no] := by
    unfold be_c0
    rw [nms_eq]
    exact comp_typed (e := (enc : Nm → D)) (e' := (enc : Nm → D)) nms (bornB y) (fun n => n) (by rfl) rfl (small_le (by decide)) (fun n hn => ⟨[.d (encY y), .d (enc n)], [.d (encY y), .d (enc n)], rfl, by
      have q := is_borne_ap hy n
      generalize encY y = EY at *
      simp [q], rfl, rfl, fun _ => ⟨[.d (encY y), .d (enc n)], rfl, rfl, rfl⟩⟩)
  rw [List.map_id'] at c
  have key : Fp (Mi.bears [.d (encY y)]) (fun d os => d = .lst ((bearsL y).map enc) ∧ os = []) (fun _ _ => False) := by
    rw [be_eq, Fp_fnM]
    unfold bearsL
    generalize (nms.filter (bornB y)).map enc = A at *
    simp [Wp_of c]
  obtain ⟨_, _, e, rfl, rfl⟩ := Fp_ok' key
  exact e
end
end DL
end
section
namespace DL
open PySem PySem.Spec L2 DLS
open PyProof.Rows hiding St
/-! ### family B: the drawing state -/
theorem mul_sm {i j : Int} (h : (-(2 ^ 64) < i ∧ i < 2 ^ 64) ∨ (-(2 ^ 64) < j ∧ j < 2 ^ 64)) : mulD (.int i) (.int j) = some (.int (i * j)) := by
  have c : CMul i j := h
  simp [mulD, intD, c]
theorem take_spec (a b c many : Int) (h0 : 0 < many) (h1 : many < 1073741824) : ∃ r a' c', 0 ≤ r ∧ r < many ∧ Mi.law_take [.cell (.l [.int a, .int b, .int c]), .d (.int many)] = .ok (.int r) [.l [.int a', .int b, .int c']] := by
  have m0 : ∀ x : Int, 0 ≤ x % many ∧ x % many < many := fun x => ⟨Int.emod_nonneg _ (by omega), Int.emod_lt_of_pos _ h0⟩
  have dv : ∀ l : Int, CDiv l many := fun l => ⟨h0, h1⟩
  have d8 : ∀ l : Int, CDiv l 8 := fun l => by unfold CDiv; decide
  by_cases hb : b = 1 ∧ 0 < a
  · refine ⟨a % many, a / many, c, (m0 a).1, (m0 a).2, ?_⟩
    obtain ⟨rfl, ha⟩ := hb
    simp [Mi.law_take, ixO, atI, ixN, ixSet, ha, h0, h1, modD, divD, intD, dv]
  · have e : (b = 1 ∧ ¬ 0 < a) ∨ b ≠ 1 := by omega
    obtain ⟨t1, ht1⟩ : ∃ t, t = (a % 2147483647 + 7919 * (c + 1) + 17) * 48271 % 2147483647 := ⟨_, rfl⟩
    obtain ⟨t2, ht2⟩ : ∃ t, t = t1 * t1 % 2147483647 := ⟨_, rfl⟩
    obtain ⟨t3, ht3⟩ : ∃ t, t = (t2 + (c + 1)) * 69621 % 2147483629 := ⟨_, rfl⟩
    refine ⟨(t3 * t3 % 2147483629 / 8) % many, a, c + 1, (m0 _).1, (m0 _).2, ?_⟩
    have q0 : mulD (.int 7919) (.int (c + 1)) = some (.int (7919 * (c + 1))) := mul_sm (by omega)
    have q1 : mulD (.int (a % 2147483647 + 7919 * (c + 1) + 17)) (.int 48271) = some (.int ((a % 2147483647 + 7919 * (c + 1) + 17) * 48271)) := mul_sm (by omega)
    have q2 : mulD (.int t1) (.int t1) = some (.int (t1 * t1)) := mul_sm (by omega)
    have q3 : mulD (.int (t2 + (c + 1))) (.int 69621) = some (.int ((t2 + (c + 1)) * 69621)) := mul_sm (by omega)
    have q4 : mulD (.int t3) (.int t3) = some (.int (t3 * t3)) := mul_sm (by omega)
    rcases e with ⟨rfl, ha⟩ | hb
    · simp [Mi.law_take, ixO, atI, ixN, ixSet, h0, h1, ha, addD, modD, divD, intD, d8, q0, q1, ← ht1, q2, ← ht2, q3, ← ht3, q4]
    · have hb' : (b == (1 : Int)) = false := by simpa using hb
      simp [Mi.law_take, ixO, atI, ixN, ixSet, h0, h1, hb', hb, addD, modD, divD, intD, d8, q0, q1, ← ht1, q2, ← ht2, q3, ← ht3, q4]
end DL
end
section
namespace DL
open PySem PySem.Spec L2 DLS
open PyProof.Rows hiding St
/-- steps that a kind may have -/
structure SB (L : List Cell) : Prop where
  ri : risingB ltE L = true
  st : ∀ s ∈ L, isStep s = true
def stL0 : List Cell := [(-1, -1), (-1, 0), (-1, 1), (0, -1), (0, 1), (1, -1), (1, 0), (1, 1)]
theorem sb0 : SB stL0 := ⟨by kernel_rfl, by decide⟩
theorem st_0 : Mi.law_steps [.d (.int 0)] = .ok (.lst (stL0.map enc)) [] := by kernel_rfl
def stL1 : List Cell := [(-1, 0), (0, -1), (0, 1), (1, 0)]
theorem sb1 : SB stL1 := ⟨by kernel_rfl, by decide⟩
theorem st_1 : Mi.law_steps [.d (.int 1)] = .ok (.lst (stL1.map enc)) [] := by kernel_rfl
def stL2 : List Cell := [(-1, -1), (-1, 1), (1, -1), (1, 1)]
theorem sb2 : SB stL2 := ⟨by kernel_rfl, by decide⟩
theorem st_2 : Mi.law_steps [.d (.int 2)] = .ok (.lst (stL2.map enc)) [] := by kernel_rfl
def stL3 : List Cell := [(-2, -1), (-2, 1), (-1, -2), (-1, 2), (1, -2), (1, 2), (2, -1), (2, 1)]
theorem sb3 : SB stL3 := ⟨by kernel_rfl, by decide⟩
theorem st_3 : Mi.law_steps [.d (.int 3)] = .ok (.lst (stL3.map enc)) [] := by kernel_rfl
def stL4 : List Cell := [(0, -1), (0, 1)]
theorem sb4 : SB stL4 := ⟨by kernel_rfl, by decide⟩
theorem st_4 : Mi.law_steps [.d (.int 4)] = .ok (.lst (stL4.map enc)) [] := by kernel_rfl
def stL5 : List Cell := [(1, 0)]
theorem sb5 : SB stL5 := ⟨by kernel_rfl, by decide⟩
theorem st_5 : Mi.law_steps [.d (.int 5)] = .ok (.lst (stL5.map enc)) [] := by kernel_rfl
def stL6 : List Cell := [(1, -1), (1, 0), (1, 1)]
theorem sb6 : SB stL6 := ⟨by kernel_rfl, by decide⟩
theorem st_6 : Mi.law_steps [.d (.int 6)] = .ok (.lst (stL6.map enc)) [] := by kernel_rfl
def stL7 : List Cell := []
theorem sb7 : SB stL7 := ⟨by kernel_rfl, by decide⟩
theorem st_7 : Mi.law_steps [.d (.int 7)] = .ok (.lst (stL7.map enc)) [] := by kernel_rfl
theorem law_steps_ap (n : Int) (h0 : 0 ≤ n) (h1 : n < 8) : ∃ L, SB L ∧ L.length ≤ 8 ∧ Mi.law_steps [.d (.int n)] = .ok (.lst (L.map enc)) [] := by
  have : n = 0 ∨ n = 1 ∨ n = 2 ∨ n = 3 ∨ n = 4 ∨ n = 5 ∨ n = 6 ∨ n = 7 := by omega
  rcases this with rfl | rfl | rfl | rfl | rfl | rfl | rfl | rfl
  · exact ⟨_, sb0, by decide, st_0⟩
  · exact ⟨_, sb1, by decide, st_1⟩
  · exact ⟨_, sb2, by decide, st_2⟩
  · exact ⟨_, sb3, by decide, st_3⟩
  · exact ⟨_, sb4, by decide, st_4⟩
  · exact ⟨_, sb5, by decide, st_5⟩
  · exact ⟨_, sb6, by decide, st_6⟩
  · exact ⟨_, sb7, by decide, st_7⟩
theorem intL_at (ns : List Int) (k : Nat) (h : k < ns.length) : ixX (.lst (ns.map .int)) (.int k) = some (.int (ns.getD k 0)) := by
  refine lst_at D.int ns k _ ?_
  rw [List.getD_eq_getElem?_getD, List.getElem?_eq_getElem h]; rfl
theorem cell_end (b kk bm bz kz r0 r : Int) (S : D) (md : modD (.int b) (.int 65521) = some (.int bm)) (c3 : mulD (.int bm) (.int 48271) = some (.int bz)) (c1 : mulD (.int kk) (.int 30103) = some (.int kz)) (ad : addD (.int bz) (.int kz) = some (.int r0)) (md2 : modD (.int r0) (.int 65521) = some (.int r)) :
    (op2 modD (op2 addD (op2 mulD (op2 modD (getM 2) (pureM (.int 65521))) (pureM (.int 48271))) (op2 mulD (getM 1) (pureM (.int 30103)))) (pureM (.int 65521))) [.d S, .d (.int kk), .d (.int b)] = .ok (.int r) [.d S, .d (.int kk), .d (.int b)] := by
  simp [md, c3, c1, ad, md2]
theorem mod_ex (b : Int) : ∃ r, 0 ≤ r ∧ r < 65521 ∧ modD (.int b) (.int 65521) = some (.int r) := ⟨b % 65521, Int.emod_nonneg _ (by decide), Int.emod_lt_of_pos _ (by decide), by simp [modD, intD]⟩
theorem mul_ex (a c : Int) (h0 : 0 ≤ a) (h1 : a < 100000) : ∃ r, mulD (.int a) (.int c) = some (.int r) := ⟨a * c, mul_sm (.inl ⟨by omega, by omega⟩)⟩
theorem law_cell_ap (ns : List Int) (k : Nat) (hk : k ≤ 1000) : ∃ i : Int, Mi.law_cell [.d (.lst (ns.map D.int)), .d (.int k)] = .ok (.int i) [] := by
  by_cases h : k < ns.length
  · have h' : (k : Int) < ns.length := by omega
    have e := intL_at ns k h
    refine ⟨_, fn_run (ρ0 := [.d (.lst (ns.map D.int)), .d (.int k), .no]) (ρ' := [.d (.lst (ns.map D.int)), .d (.int k), .no]) (d := .int (ns.getD k 0)) rfl rfl (seq_ret (if_ret (ρ' := [.d (.lst (ns.map D.int)), .d (.int k), .no]) (by simp [h']) (by generalize ns.getD k 0 = v at *; simp [e])))⟩
  · have h' : ¬ (k : Int) < ns.length := by omega
    obtain ⟨b, hb⟩ : ∃ b : Int, (seqM (setM 2 (pureM (.int 0))) (ifM (boolM (op2 gtA (callD lenG (consM (getM 0) (pureM []))) (pureM (.int 0)))) (setM 2 (op2 ixX (getM 0) (pureM (.int 0)))) (skipM))) [.d (.lst (ns.map D.int)), .d (.int k), .no] = .ok .nx [.d (.lst (ns.map D.int)), .d (.int k), .d (.int b)] := by
      cases ns with
      | nil => exact ⟨0, by simp⟩
      | cons n ns =>
        refine ⟨n, ?_⟩
        have e0 : ixX (.lst ((n :: ns).map D.int)) (.int 0) = some (.int n) := intL_at (n :: ns) 0 (by simp)
        have p : (0 : Int) < (ns.length : Int) + 1 := by omega
        simp at e0
        simp [e0, p]
    obtain ⟨bm, m0, m1, md⟩ := mod_ex b
    obtain ⟨bz, c3⟩ := mul_ex bm 48271 m0 (by omega)
    obtain ⟨kz, c1⟩ := mul_ex (k : Int) 30103 (by omega) (by omega)
    obtain ⟨r0, ad⟩ : ∃ r0, addD (.int bz) (.int kz) = some (.int r0) := ⟨_, rfl⟩
    obtain ⟨r, _, _, md2⟩ := mod_ex r0
    have ce := cell_end b k bm bz kz r0 r (.lst (ns.map D.int)) md c3 c1 ad md2
    refine ⟨r, ?_⟩
    have a34 : ∀ (a b r : MS) (ρ : DL.Env), seqM a (seqM b r) ρ = seqM (seqM a b) r ρ := fun a b r ρ => by
      simp only [seqM_ap]
      cases a ρ with
      | ok fl ρ' => cases fl <;> rfl
      | _ => rfl
    exact fn_run (ρ0 := [.d (.lst (ns.map D.int)), .d (.int k), .no]) (ρ' := [.d (.lst (ns.map D.int)), .d (.int k), .d (.int b)]) rfl rfl ((seq_nx (if_no (ρ' := [.d (.lst (ns.map D.int)), .d (.int k), .no]) (by simp [h']))).trans ((a34 _ _ _ _).trans ((seq_nx hb).trans (ret_ok ce))))
theorem law_begin_ap (ns : List Int) (k : Nat) (hk : k ≤ 1000) : ∃ a b : Int, Mi.law_begin [.d (.lst (ns.map D.int)), .d (.int k)] = .ok (.lst [.int a, .int b, .int 0]) [] := by
  obtain ⟨i, e⟩ := law_cell_ap ns k hk
  obtain ⟨big, pw⟩ : ∃ big : Int, powD (.int 10) (.int 18) = some (.int big) := ⟨10 ^ 18, by kernel_rfl⟩
  obtain ⟨a, ha⟩ : ∃ a : Int, max2D [.int i, .int (0 - i)] = some (.int a) := ⟨_, rfl⟩
  obtain ⟨b, hb⟩ : ∃ b : Int, intCD [.bl (decide (big ≤ i))] = some (.int b) := by
    generalize decide (big ≤ i) = t
    cases t
    · exact ⟨_, rfl⟩
    · exact ⟨_, rfl⟩
  refine ⟨a, b, ?_⟩
  unfold Mi.law_begin
  refine fn_run (ρ0 := [.d (.lst (ns.map D.int)), .d (.int k), .no]) (ρ' := [.d (.lst (ns.map D.int)), .d (.int k), .d (.int i)]) rfl rfl ((seq_nx (ρ' := [.d (.lst (ns.map D.int)), .d (.int k), .d (.int i)]) (by simp [e])).trans (ret_ok ?_))
  have ge : geA (.int i) (.int big) = some (.bl (decide (big ≤ i))) := rfl
  have sb : subD (.int 0) (.int i) = some (.int (0 - i)) := rfl
  generalize 0 - i = ni at *
  simp [pw, ge, sb, ha, hb]
end DL
end
section
namespace DL
open PySem PySem.Spec L2 DLS
open PyProof.Rows hiding St
abbrev S3 (a b c : Int) : OC := .l [.int a, .int b, .int c]
theorem take_fp {a b c many : Int} {P : D → List OC → Prop} {Y : Str → List OC → Prop} (h0 : 0 < many) (h1 : many < 1073741824) (h : ∀ r a' c', 0 ≤ r → r < many → P (.int r) [S3 a' b c']) : Fp (Mi.law_take [.cell (S3 a b c), .d (.int many)]) P Y := by
  obtain ⟨r, a', c', r0, r1, e⟩ := take_spec a b c many h0 h1
  rw [Fp_of e]
  exact h r a' c' r0 r1
theorem steps_fp {n : Int} {P : D → List OC → Prop} {Y : Str → List OC → Prop} (h0 : 0 ≤ n) (h1 : n < 8) (h : ∀ L : List Cell, SB L → L.length ≤ 8 → P (.lst (L.map enc)) []) : Fp (Mi.law_steps [.d (.int n)]) P Y := by
  obtain ⟨L, s, l, e⟩ := law_steps_ap n h0 h1
  rw [Fp_of e]
  exact h L s l
structure KB (K : Kind) : Prop where
  l : SB K.leaps
  r : SB K.rides
  ll : K.leaps.length ≤ 8
  lr : K.rides.length ≤ 8
theorem sb_nil : SB [] := ⟨rfl, by simp⟩
theorem kind_fp {a b c crown : Int} {P : D → List OC → Prop} {Y : Str → List OC → Prop} (h : ∀ K a' c', KB K → K.crown = crown → P (encK K) [S3 a' b c']) : Fp (Mi.law_kind [.cell (S3 a b c), .d (.int crown)]) P Y := by
  unfold Mi.law_kind
  rw [Fp_fnM]
  refine Wp_cut (fun ρ' => ∃ (a c : Int) (L : List Cell), SB L ∧ L.length ≤ 8 ∧ ρ' = [.cell (S3 a b c), .d (.int crown), .d (.lst (L.map enc)), .no, .no]) (fun N hN => ?_) ?_
  · simp
    refine take_fp (by omega) (by omega) fun r a1 c1 r0 r1 => ?_
    refine steps_fp r0 r1 fun L hL ll => ?_
    simp
    exact hN _ ⟨a1, c1, L, hL, ll, rfl⟩
  rintro _ ⟨a1, c1, L, hL, ll, rfl⟩
  refine Wp_cut (fun ρ' => ∃ (a c : Int) (R : List Cell), SB R ∧ R.length ≤ 8 ∧ ρ' = [.cell (S3 a b c), .d (.int crown), .d (.lst (L.map enc)), .d (.lst (R.map enc)), .no]) (fun N hN => ?_) ?_
  · simp
    refine take_fp (by omega) (by omega) fun r a2 c2 r0 r1 => ?_
    refine steps_fp r0 r1 fun R hR lr => ?_
    simp
    exact hN _ ⟨a2, c2, R, hR, lr, rfl⟩
  rintro _ ⟨a2, c2, R, hR, lr, rfl⟩
  refine Wp_cut (fun ρ' => ∃ (a c : Int) (R : List Cell), SB R ∧ R.length ≤ 8 ∧ ρ' = [.cell (S3 a b c), .d (.int crown), .d (.lst (L.map enc)), .d (.lst (R.map enc)), .no]) (fun N hN => ?_) ?_
  · simp
    refine take_fp (by omega) (by omega) fun r a3 c3 r0 r1 => ?_
    simp
    split
    · exact hN _ ⟨a3, c3, [], sb_nil, by simp, rfl⟩
    · exact hN _ ⟨a3, c3, R, hR, lr, rfl⟩
  clear hR lr R a2 c2
  rintro _ ⟨a2, c2, R, hR, lr, rfl⟩
  refine Wp_cut (fun ρ' => ∃ (a c : Int) (L : List Cell), SB L ∧ L.length ≤ 8 ∧ ρ' = [.cell (S3 a b c), .d (.int crown), .d (.lst (L.map enc)), .d (.lst (R.map enc)), .no]) (fun N hN => ?_) ?_
  · simp
    refine take_fp (by omega) (by omega) fun r a3 c3 r0 r1 => ?_
    simp
    split
    case isFalse => exact hN _ ⟨a3, c3, L, hL, ll, rfl⟩
    refine Wp_compO (e := fun (i : Nat) => D.int (i : Int)) (e' := (enc : Cell → D)) (fun pre acc ρ => acc.length = pre.length ∧ (∀ s ∈ acc, isStep s = true) ∧ ∃ a c, ρ = [.cell (S3 a b c), .d (.int crown), .d (.lst (L.map enc)), .d (.lst (R.map enc)), .no]) (List.range 2) (fun N2 hN2 => ?_) ?_
    · have rg : rg1 [.int 2] = _ := rg1_nat' 2 (by omega)
      simp [rg]
      refine hN2 _ ⟨rfl, ⟨rfl, by simp, a3, c3, rfl⟩, ?_⟩
      rintro ys _ ⟨hy, hs, a4, c4, rfl⟩
      have hy : ys.length = 2 := hy
      have so := sortS_enc ys (Nat.lt_of_le_of_lt (nubE_len ys []) (by omega))
      refine ⟨_, so, hN _ ⟨a4, c4, ssetE ys, ⟨rising_sset ys, fun s hs' => hs s (mem_ssetE.mp hs')⟩, ?_, rfl⟩⟩
      rw [ssetE_len]
      have := nubE_len ys []
      omega
    · rintro pre x post acc _ hx ⟨al, hs, a4, c4, rfl⟩ YY NN hY hNN
      have hz : acc.length < sizeLine := Nat.lt_of_le_of_lt (show acc.length ≤ 2 by have := congrArg List.length hx; simp at this; omega) (by rw [sizeLine_eq]; decide)
      refine ⟨_, rfl, ?_⟩
      simp [hz]
      refine take_fp (by omega) (by omega) fun r5 a5 c5 r50 r51 => ?_
      simp
      refine take_fp (by omega) (by omega) fun r6 a6 c6 r60 r61 => ?_
      simp [addD, subD, intD]
      refine hY _ _ ⟨(r5 - 4, 1 + r6), rfl, rfl, by simp [al], ?_, a6, c6, rfl⟩
      have hst : isStep (r5 - 4, 1 + r6) = true := by
        unfold isStep absI
        simp only [Bool.and_eq_true, Bool.not_eq_true', decide_eq_false_iff_not, decide_eq_true_eq]
        refine ⟨fun z => ?_, ?_, ?_⟩
        · have := congrArg Prod.snd z
          dsimp only at this
          omega
        · split <;> omega
        · split <;> omega
      intro s hs'
      rcases List.mem_append.mp hs' with h1 | h1
      · exact hs s h1
      · have := List.mem_singleton.mp h1
        subst this
        exact hst
  · rintro _ ⟨a4, c4, L', hL', ll', rfl⟩
    simp
    exact h ⟨L', R, crown⟩ a4 c4 ⟨hL', hR, ll', lr⟩ rfl
end DL
end
section
namespace DL
open PySem PySem.Spec L2 DLS
open PyProof.Rows hiding St
def rowP (r k : Nat) : List Cell := (List.range k).map fun (c : Nat) => (((r : Int), (c : Int)) : Cell)
theorem rowP_succ (r k : Nat) : rowP r (k + 1) = rowP r k ++ [((r : Int), (k : Int))] := by
  unfold rowP
  rw [List.range_succ, List.map_append]; rfl
theorem some_cells_fp {a b c : Int} {h w : Nat} {out : List Cell} {share : Int} {P : D → List OC → Prop} {Y : Str → List OC → Prop} (hh : h ≤ 5) (hw : w ≤ 5) (s0 : 0 < share) (s1 : share < 1000)
    (fin : ∀ (F : List Cell) a' c', F.Sublist (boardN h w) → (∀ x ∈ F, x ∉ out) → P (.lst (F.map enc)) [S3 a' b c']) : Fp (Mi.law_some_cells [.cell (S3 a b c), .d (.int h), .d (.int w), .d (.lst (out.map enc)), .d (.int share)]) P Y := by
  unfold Mi.law_some_cells
  rw [Fp_fnM]
  refine Wp_cut (fun ρ' => ρ' = [.cell (S3 a b c), .d (.int h), .d (.int w), .d (.lst (out.map enc)), .d (.int share), .own [], .no, .no]) (fun N hN => by simp; exact hN _ rfl) ?_
  rintro _ rfl
  have bl : ∀ r, r ≤ h → (boardN r w).length ≤ 25 := fun r hr => by rw [boardN_len]; exact Nat.mul_le_mul (show r ≤ 5 by omega) hw
  refine Wp_cut (fun ρ' => ∃ (a c : Int) (F : List Cell) (s6 s7 : Sl), F.Sublist (boardN h w) ∧ (∀ x ∈ F, x ∉ out) ∧ ρ' = [.cell (S3 a b c), .d (.int h), .d (.int w), .d (.lst (out.map enc)), .d (.int share), .own (F.map enc), s6, s7]) (fun N hN => ?_) ?_
  · have rg := rg1_nat' h (by omega)
    simp [rg]
    refine Wp_forR (fun r ρ => ∃ (a c : Int) (F : List Cell) (s6 s7 : Sl), F.Sublist (boardN r w) ∧ (∀ x ∈ F, x ∉ out) ∧ ρ = [.cell (S3 a b c), .d (.int h), .d (.int w), .d (.lst (out.map enc)), .d (.int share), .own (F.map enc), s6, s7]) h ⟨a, c, [], .no, .no, by simp, by simp, rfl⟩ ?_ ?_
    · rintro r _ hr ⟨a1, c1, F, s6, s7, hF, hn, rfl⟩ N hN
      refine ⟨_, rfl, ?_⟩
      have rg := rg1_nat' w (by omega)
      simp [rg]
      refine Wp_forR (fun k ρ => ∃ (a c : Int) (F : List Cell) (s7 : Sl), F.Sublist (boardN r w ++ rowP r k) ∧ (∀ x ∈ F, x ∉ out) ∧ ρ = [.cell (S3 a b c), .d (.int h), .d (.int w), .d (.lst (out.map enc)), .d (.int share), .own (F.map enc), .d (.int r), s7]) w ⟨a1, c1, F, s7, by simpa [rowP] using hF, hn, rfl⟩ ?_ ?_
      · rintro k _ hk ⟨a2, c2, F, s7, hF, hn, rfl⟩ N hN
        refine ⟨_, rfl, ?_⟩
        have fl : F.length ≤ 999 := by
          have := hF.length_le
          rw [List.length_append] at this
          have := bl r (by omega)
          have : (rowP r k).length = k := by simp [rowP]
          omega
        obtain ⟨bb, nx, hb⟩ := ninX_ex (((r : Int), (k : Int)) : Cell) out
        have nx : ninX (.tup [.int r, .int k]) (.lst (out.map enc)) = some (.bl bb) := nx
        have ap : appD (F.map enc) [.tup [.int r, .int k]] = some (.non, (F ++ [(((r : Int), (k : Int)) : Cell)]).map enc) := app_ap (enc : Cell → D) F ((r : Int), (k : Int)) fl
        have skip : F.Sublist (boardN r w ++ rowP r (k + 1)) := by
          rw [rowP_succ, ← List.append_assoc]
          exact hF.trans (List.sublist_append_left _ _)
        have more : (F ++ [(((r : Int), (k : Int)) : Cell)]).Sublist (boardN r w ++ rowP r (k + 1)) := by
          rw [rowP_succ, ← List.append_assoc]
          exact List.Sublist.append hF (List.Sublist.refl _)
        generalize hFE : (F ++ [(((r : Int), (k : Int)) : Cell)]).map enc = FE at ap
        generalize hFM : F.map (enc : Cell → D) = FM at *
        cases bb with
        | false => simp [nx]; exact hN _ ⟨a2, c2, F, _, skip, hn, by rw [hFM]⟩
        | true =>
          simp [nx]
          refine take_fp s0 (by omega) fun r1 a3 c3 r10 r11 => ?_
          simp
          split
          · simp [ap]
            refine hN _ ⟨a3, c3, F ++ [((r : Int), (k : Int))], _, more, fun x hx => ?_, by rw [hFE]⟩
            rcases List.mem_append.mp hx with hx | hx
            · exact hn x hx
            · rw [List.mem_singleton.mp hx]
              exact hb.mp rfl
          · exact hN _ ⟨a3, c3, F, _, skip, hn, by rw [hFM]⟩
      · rintro _ ⟨a2, c2, F, s7, hF, hn, rfl⟩
        exact hN _ ⟨a2, c2, F, _, s7, by rw [boardN_succ]; exact hF, hn, rfl⟩
    · rintro _ ⟨a2, c2, F, s6, s7, hF, hn, rfl⟩
      exact ⟨rfl, hN _ ⟨a2, c2, F, s6, s7, hF, hn, rfl⟩⟩
  · rintro _ ⟨a2, c2, F, s6, s7, hF, hn, rfl⟩
    simp
    exact fin F a2 c2 hF hn
end DL
end
section
namespace DL
open PySem PySem.Spec L2 DLS
open PyProof.Rows hiding St
def parts_0 : MS := setXM 3 (callM Mi.law_begin (mdM [false, false] (consA (getM 0) (consA (getM 1) (pureM [])))))
def parts_1 : MS := asgM (op2 ixX (lstM (sizeM (consM (tupM (consM (pureM (.int 2)) (consM (pureM (.int 2)) (pureM [])))) (consM (tupM (consM (pureM (.int 2)) (consM (pureM (.int 3)) (pureM [])))) (consM (tupM (consM (pureM (.int 3)) (consM (pureM (.int 3)) (pureM [])))) (consM (tupM (consM (pureM (.int 3)) (consM (pureM (.int 2)) (pureM [])))) (consM (tupM (consM (pureM (.int 1)) (consM (pureM (.int 4)) (pureM [])))) (consM (tupM (consM (pureM (.int 3)) (consM (pureM (.int 4)) (pureM [])))) (consM (tupM (consM (pureM (.int 4)) (consM (pureM (.int 3)) (pureM [])))) (consM (tupM (consM (pureM (.int 3)) (consM (pureM (.int 3)) (pureM [])))) (pureM []))))))))))) (callM Mi.law_take (mdM [true, false] (bindM (haveS 3) fun _ => consS 3 (consA (getM 2) (pureM [])))))) (tgU 2 (tgs1 (tgN 4) (tgs1 (tgN 5) tgs0)))
def parts_2 : MS := setM 6 (lstM (sizeM (pureM [])))
def parts_3_t : MS := setM 6 (slM (callM Mi.law_some_cells (mdM [true, false, false, false, false] (bindM (haveS 3) fun _ => consS 3 (consA (getM 4) (consA (getM 5) (consA (lstM (sizeM (pureM []))) (consA (pureM (.int 7)) (pureM [])))))))) (pureM none) (partM (pureM (.int 2))))
def parts_3 : MS := ifM (boolM (op2 eqD (callM Mi.law_take (mdM [true, false] (bindM (haveS 3) fun _ => consS 3 (consA (pureM (.int 3)) (pureM []))))) (pureM (.int 2)))) parts_3_t skipM
def parts_4 : MS := setCM 7 (dicC [(pureM (.str "k"), callM Mi.law_kind (mdM [true, false] (bindM (haveS 3) fun _ => consS 3 (consA (pureM (.int 1)) (pureM [])))))])
def parts_5 : MS := setGM setAD 7 (op2 ixX (pureM (.str "ab")) (callM Mi.law_take (mdM [true, false] (bindM (haveS 3) fun _ => consS 3 (consA (pureM (.int 2)) (pureM [])))))) (callM Mi.law_kind (mdM [true, false] (bindM (haveS 3) fun _ => consS 3 (consA (pureM (.int 0)) (pureM [])))))
def parts_6_t : MS := setGM setAD 7 (pureM (.str "q")) (callM Mi.law_kind (mdM [true, false] (bindM (haveS 3) fun _ => consS 3 (consA (callM Mi.law_take (mdM [true, false] (bindM (haveS 3) fun _ => consS 3 (consA (pureM (.int 2)) (pureM []))))) (pureM [])))))
def parts_6 : MS := ifM (boolM (op2 eqD (callM Mi.law_take (mdM [true, false] (bindM (haveS 3) fun _ => consS 3 (consA (pureM (.int 3)) (pureM []))))) (pureM (.int 1)))) parts_6_t skipM
def parts_7_t_b : MS := setGM setAD 7 (getM 8) (callM Mi.law_kind (mdM [true, false] (bindM (haveS 3) fun _ => consS 3 (consA (callM Mi.law_take (mdM [true, false] (bindM (haveS 3) fun _ => consS 3 (consA (pureM (.int 2)) (pureM []))))) (pureM [])))))
def parts_7_t : MS := forD (itemsGM (pureM (.str "cde"))) (tgN 8) parts_7_t_b
def parts_7 : MS := ifM (boolM (op2 eqD (callM Mi.law_take (mdM [true, false] (bindM (haveS 3) fun _ => consS 3 (consA (pureM (.int 8)) (pureM []))))) (pureM (.int 1)))) parts_7_t skipM
def parts_8 : MS := setM 9 (tupM (consM (lstM (sizeM (pureM []))) (consM (lstM (sizeM (pureM []))) (pureM []))))
def parts_9_t : MS := setM 9 (tupM (consM (callM Mi.law_some_cells (mdM [true, false, false, false, false] (bindM (haveS 3) fun _ => consS 3 (consA (getM 4) (consA (getM 5) (consA (getM 6) (consA (pureM (.int 6)) (pureM [])))))))) (consM (callM Mi.law_some_cells (mdM [true, false, false, false, false] (bindM (haveS 3) fun _ => consS 3 (consA (getM 4) (consA (getM 5) (consA (getM 6) (consA (pureM (.int 6)) (pureM [])))))))) (pureM []))))
def parts_9_e_t_0_c0 : M (List D) := compO (rg1M (consM (getM 5) (pureM []))) (tgN 10) (pureM true) (tupM (consM (pureM (.int 0)) (consM (getM 10) (pureM [])))) [10]
def parts_9_e_t_0_c1 : M (List D) := compO (rg1M (consM (getM 5) (pureM []))) (tgN 10) (pureM true) (tupM (consM (op2 subD (getM 4) (pureM (.int 1))) (consM (getM 10) (pureM [])))) [10]
def parts_9_e_t_0 : MS := setM 9 (tupM (consM (lstM parts_9_e_t_0_c0) (consM (lstM parts_9_e_t_0_c1) (pureM []))))
def parts_9_e_t_1_c1 : M (List D) := compO (itemsGM (getM 11)) (tgN 12) (boolM (op2 ninX (getM 12) (getM 6))) (getM 12) [12]
def parts_9_e_t_1_c0 : M (List D) := compO (itemsGM (getM 9)) (tgN 11) (pureM true) (lstM parts_9_e_t_1_c1) [11]
def parts_9_e_t_1 : MS := setM 9 (callD tupC (consM (lstM parts_9_e_t_1_c0) (pureM [])))
def parts_9_e_t : MS := seqM parts_9_e_t_0 parts_9_e_t_1
def parts_9_e : MS := ifM (boolM (op2 eqD (callM Mi.law_take (mdM [true, false] (bindM (haveS 3) fun _ => consS 3 (consA (pureM (.int 3)) (pureM []))))) (pureM (.int 1)))) parts_9_e_t skipM
def parts_9 : MS := ifM (boolM (op2 eqD (callM Mi.law_take (mdM [true, false] (bindM (haveS 3) fun _ => consS 3 (consA (pureM (.int 3)) (pureM []))))) (pureM (.int 1)))) parts_9_t parts_9_e
def parts_10 : MS := retM (tupM (consM (getM 4) (consM (getM 5) (consM (getM 6) (consM (rdM 7) (consM (getM 9) (consM (op2 ixX (lstM (sizeM (consM (pureM (.str "lost")) (consM (pureM (.str "drawn")) (pureM []))))) (callM Mi.law_take (mdM [true, false] (bindM (haveS 3) fun _ => consS 3 (consA (pureM (.int 2)) (pureM [])))))) (pureM []))))))))
theorem parts__eq : Mi.law_parts = fnM false 13 (seqM parts_0 (seqM parts_1 (seqM parts_2 (seqM parts_3 (seqM parts_4 (seqM parts_5 (seqM parts_6 (seqM parts_7 (seqM parts_8 (seqM parts_9 parts_10)))))))))) := rfl
structure KsI (S : List Kd) (n : Nat) (ks : List (Kd × Kind)) : Prop where
  nd : (ks.map (·.1)).Nodup
  ok : ∀ q ∈ ks, KB q.2 ∧ (q.2.crown = 0 ∨ q.2.crown = 1) ∧ q.1 ∈ S
  ki : ∃ K, (kK, K) ∈ ks ∧ K.crown = 1
  len : ks.length ≤ n
def kQ : Kd := ⟨16, by decide⟩
def kC' : Kd := ⟨2, by decide⟩
def kD' : Kd := ⟨3, by decide⟩
def kE' : Kd := ⟨4, by decide⟩
theorem KsI.add {S : List Kd} {n : Nat} {ks : List (Kd × Kind)} (H : KsI S n ks) {k : Kd} {K : Kind} (hk : k ∉ S) (b : KB K) (c : K.crown = 0 ∨ K.crown = 1) : KsI (k :: S) (n + 1) (ks ++ [(k, K)]) ∧ k ∉ ks.map (·.1) := by
  have hn : k ∉ ks.map (·.1) := fun z => by
    obtain ⟨q, hq, e⟩ := List.mem_map.mp z
    exact hk (e ▸ (H.ok q hq).2.2)
  refine ⟨⟨?_, ?_, ?_, ?_⟩, hn⟩
  · rw [List.map_append, List.nodup_append]
    refine ⟨H.nd, by simp, fun a ha b hb => ?_⟩
    simp at hb
    subst hb
    exact fun z => hn (z ▸ ha)
  · intro q hq
    rcases List.mem_append.mp hq with hq | hq
    · exact ⟨(H.ok q hq).1, (H.ok q hq).2.1, List.mem_cons_of_mem _ (H.ok q hq).2.2⟩
    · rw [List.mem_singleton.mp hq]
      exact ⟨b, c, List.mem_cons_self⟩
  · obtain ⟨K0, h1, h2⟩ := H.ki
    exact ⟨K0, List.mem_append.mpr (.inl h1), h2⟩
  · rw [List.length_append]
    have := H.len
    simp
    omega
theorem KsI.weak {S S' : List Kd} {n m : Nat} {ks : List (Kd × Kind)} (H : KsI S n ks) (hs : ∀ x ∈ S, x ∈ S') (hn : n ≤ m) : KsI S' m ks := ⟨H.nd, fun q hq => ⟨(H.ok q hq).1, (H.ok q hq).2.1, hs _ (H.ok q hq).2.2⟩, H.ki, Nat.le_trans H.len hn⟩
structure PB (p : Parts) : Prop where
  h1 : 1 ≤ p.h
  h4 : p.h ≤ 4
  w2 : 2 ≤ p.w
  w4 : p.w ≤ 4
  hw : 4 ≤ p.h * p.w
  ho : p.holes.Sublist (boardN p.h p.w)
  hl : p.holes.length ≤ 2
  ks : ∃ S, KsI S 6 p.ks ∧ ∀ k ∈ S, k.i.val < 20
  g0 : p.g0.Sublist (freeN p)
  g1 : p.g1.Sublist (freeN p)
  st : p.stuck = "lost" ∨ p.stuck = "drawn"
structure PB5 (p : Parts) : Prop where
  h1 : 1 ≤ p.h
  h4 : p.h ≤ 5
  w2 : 2 ≤ p.w
  w4 : p.w ≤ 5
  hw : 4 ≤ p.h * p.w
  ho : p.holes.Sublist (boardN p.h p.w)
  hl : p.holes.length ≤ 2
  ks : ∃ S, KsI S 6 p.ks ∧ ∀ k ∈ S, k.i.val < 20
  g0 : p.g0.Sublist (freeN p)
  g1 : p.g1.Sublist (freeN p)
  st : p.stuck = "lost" ∨ p.stuck = "drawn"
theorem PB.to5 {p : Parts} (H : PB p) : PB5 p := ⟨H.h1, Nat.le_trans H.h4 (by decide), H.w2, Nat.le_trans H.w4 (by decide), H.hw, H.ho, H.hl, H.ks, H.g0, H.g1, H.st⟩
theorem sub_free {F B H : List Cell} (h : F.Sublist B) (n : ∀ x ∈ F, x ∉ H) : F.Sublist (B.filter fun c => !decide (c ∈ H)) := by
  have : F.filter (fun c => !decide (c ∈ H)) = F := List.filter_eq_self.mpr fun x hx => by simp [n x hx]
  rw [← this]
  exact h.filter _
theorem row_sub : ∀ (h w r : Nat), r < h → (rowL w r).Sublist (boardN h w)
  | 0, w, r, hr => by omega
  | h + 1, w, r, hr => by
    rw [boardN_succ]
    by_cases e : r = h
    · subst e; exact List.sublist_append_right _ _
    · exact (row_sub h w r (by omega)).trans (List.sublist_append_left _ _)
theorem cut2 (F : List Cell) : (cutL F none (some 2)).length ≤ 2 := by
  unfold cutL HT.sIx
  rw [List.length_take]
  simp
  omega
theorem sizes_at (r : Int) (h0 : 0 ≤ r) (h1 : r < 8) : ∃ h w : Nat, (1 ≤ h ∧ h ≤ 4 ∧ 2 ≤ w ∧ w ≤ 4 ∧ 4 ≤ h * w) ∧ ixX (.lst [.tup [.int 2, .int 2], .tup [.int 2, .int 3], .tup [.int 3, .int 3], .tup [.int 3, .int 2], .tup [.int 1, .int 4], .tup [.int 3, .int 4], .tup [.int 4, .int 3], .tup [.int 3, .int 3]]) (.int r) = some (.tup [.int h, .int w]) := by
  have : r = 0 ∨ r = 1 ∨ r = 2 ∨ r = 3 ∨ r = 4 ∨ r = 5 ∨ r = 6 ∨ r = 7 := by omega
  rcases this with rfl | rfl | rfl | rfl | rfl | rfl | rfl | rfl
  · exact ⟨2, 2, by omega, rfl⟩
  · exact ⟨2, 3, by omega, rfl⟩
  · exact ⟨3, 3, by omega, rfl⟩
  · exact ⟨3, 2, by omega, rfl⟩
  · exact ⟨1, 4, by omega, rfl⟩
  · exact ⟨3, 4, by omega, rfl⟩
  · exact ⟨4, 3, by omega, rfl⟩
  · exact ⟨3, 3, by omega, rfl⟩
theorem ab_at (r : Int) (h0 : 0 ≤ r) (h1 : r < 2) : ∃ k : Kd, (k = kA ∨ k = kB) ∧ ixX (.str "ab") (.int r) = some (enc k) := by
  have : r = 0 ∨ r = 1 := by omega
  rcases this with rfl | rfl
  · exact ⟨kA, .inl rfl, by kernel_rfl⟩
  · exact ⟨kB, .inr rfl, by kernel_rfl⟩
theorem cde_items : itemsG (.str "cde") = some ([kC', kD', kE'].map enc) := by kernel_rfl
theorem stuck_at' (i : Int) (h0 : 0 ≤ i) (h1 : i < 2) : ∃ st : Str, (st = "lost" ∨ st = "drawn") ∧ ixX (.lst [.str "lost", .str "drawn"]) (.int i) = some (.str st) := by
  have : i = 0 ∨ i = 1 := by omega
  rcases this with rfl | rfl
  · exact ⟨"lost", .inl rfl, rfl⟩
  · exact ⟨"drawn", .inr rfl, rfl⟩
theorem begin_fp (ns : List Int) (k : Nat) (hk : k ≤ 1000) {P : D → List OC → Prop} {Y : Str → List OC → Prop} (h : ∀ a b, P (.lst [.int a, .int b, .int 0]) []) : Fp (Mi.law_begin [.d (.lst (ns.map D.int)), .d (.int k)]) P Y := by
  obtain ⟨a, b, e⟩ := law_begin_ap ns k hk
  rw [Fp_of e]
  exact h a b
section
variable {S Kk Mo : D} {b : Int} {h w : Nat} {X : Str → DL.Env → Prop}
def pE0 (S Kk Mo : D) (st : OC) (h w : Nat) (s6 s7 s8 s9 : Sl) : DL.Env := [.d S, .d Kk, .d Mo, .cell st, .d (.int h), .d (.int w), s6, s7, s8, s9, .no, .no, .no]
theorem parts3_ok (hh : h ≤ 5) (hw : w ≤ 5) (a c : Int) {N : DL.Env → Prop} (hN : ∀ (a c : Int) (H : List Cell), H.Sublist (boardN h w) → H.length ≤ 2 → N (pE0 S Kk Mo (S3 a b c) h w (.d (.lst (H.map enc))) .no .no .no)) : Wp parts_3 (pE0 S Kk Mo (S3 a b c) h w (.d (.lst [])) .no .no .no) (fun fl ρ' => fl = .nx ∧ N ρ') X := by
  unfold parts_3 parts_3_t pE0
  simp
  refine take_fp (by omega) (by omega) fun r a1 c1 r0 r1 => ?_
  simp
  split
  · refine some_cells_fp (out := []) hh hw (by omega) (by omega) fun F a2 c2 hF _ => ?_
    simp [slD_l]
    exact hN a2 c2 _ ((cutL_sub _ _ _).trans hF) (cut2 F)
  · exact hN a1 c1 [] (by simp) (by simp)
theorem parts4_ok (a c : Int) (hs : Sl) {N : DL.Env → Prop} (hN : ∀ (a c : Int) (ks : List (Kd × Kind)), KsI [kK] 1 ks → N (pE0 S Kk Mo (S3 a b c) h w hs (.cell (kOC ks)) .no .no)) : Wp parts_4 (pE0 S Kk Mo (S3 a b c) h w hs .no .no .no) (fun fl ρ' => fl = .nx ∧ N ρ') X := by
  unfold parts_4 pE0
  simp
  refine kind_fp fun K a1 c1 hK hc => ?_
  have dk : difK [.str "k"] = true := by kernel_rfl
  simp [dk]
  exact hN a1 c1 [(kK, K)] ⟨by simp, fun q hq => by rw [List.mem_singleton.mp hq]; exact ⟨hK, .inr hc, by simp⟩, ⟨K, by simp, hc⟩, by simp⟩
theorem parts5_ok (a c : Int) (hs : Sl) (ks : List (Kd × Kind)) (H : KsI [kK] 1 ks) {N : DL.Env → Prop} (hN : ∀ (a c : Int) (ks : List (Kd × Kind)), KsI [kA, kB, kK] 2 ks → N (pE0 S Kk Mo (S3 a b c) h w hs (.cell (kOC ks)) .no .no)) : Wp parts_5 (pE0 S Kk Mo (S3 a b c) h w hs (.cell (kOC ks)) .no .no) (fun fl ρ' => fl = .nx ∧ N ρ') X := by
  unfold parts_5 pE0
  simp
  refine kind_fp fun K a1 c1 hK hc => ?_
  simp
  refine take_fp (by omega) (by omega) fun r a2 c2 r0 r1 => ?_
  obtain ⟨k, hk, e⟩ := ab_at r r0 r1
  have hl := H.len
  obtain ⟨H2, hn⟩ := H.add (k := k) (by rcases hk with rfl | rfl <;> decide) hK (.inl hc)
  have sa := setAD_kd ks k K hn (by omega)
  simp [e, sa]
  exact hN a2 c2 _ (H2.weak (by rcases hk with rfl | rfl <;> decide) (by omega))
theorem parts6_ok (a c : Int) (hs : Sl) (ks : List (Kd × Kind)) (H : KsI [kA, kB, kK] 2 ks) {N : DL.Env → Prop} (hN : ∀ (a c : Int) (ks : List (Kd × Kind)), KsI [kQ, kA, kB, kK] 3 ks → N (pE0 S Kk Mo (S3 a b c) h w hs (.cell (kOC ks)) .no .no)) : Wp parts_6 (pE0 S Kk Mo (S3 a b c) h w hs (.cell (kOC ks)) .no .no) (fun fl ρ' => fl = .nx ∧ N ρ') X := by
  unfold parts_6 parts_6_t pE0
  simp
  refine take_fp (by omega) (by omega) fun r a1 c1 r0 r1 => ?_
  simp
  split
  · refine take_fp (by omega) (by omega) fun r a2 c2 r20 r21 => ?_
    simp
    refine kind_fp fun K a3 c3 hK hc => ?_
    have hl := H.len
    obtain ⟨H2, hn⟩ := H.add (k := kQ) (by decide) hK (by omega)
    have sa := setAD_kd ks kQ K hn (by omega)
    have kq : enc kQ = .str "q" := rfl
    rw [kq] at sa
    simp [sa]
    exact hN a3 c3 _ H2
  · exact hN a1 c1 ks (H.weak (by simp +contextual) (by omega))
theorem parts7_ok (a c : Int) (hs : Sl) (ks : List (Kd × Kind)) (H : KsI [kQ, kA, kB, kK] 3 ks) {N : DL.Env → Prop} (hN : ∀ (a c : Int) (ks : List (Kd × Kind)) (s8 : Sl), (∃ S, KsI S 6 ks ∧ ∀ k ∈ S, k.i.val < 20) → N (pE0 S Kk Mo (S3 a b c) h w hs (.cell (kOC ks)) s8 .no)) : Wp parts_7 (pE0 S Kk Mo (S3 a b c) h w hs (.cell (kOC ks)) .no .no) (fun fl ρ' => fl = .nx ∧ N ρ') X := by
  unfold parts_7 parts_7_t pE0
  simp
  refine take_fp (by omega) (by omega) fun r a1 c1 r0 r1 => ?_
  simp
  split
  · simp [cde_items]
    refine Wp_forT (e := (enc : Kd → D)) (fun pre ρ => ∃ (a c : Int) (ks : List (Kd × Kind)) (s8 : Sl), KsI (pre ++ [kQ, kA, kB, kK]) (3 + pre.length) ks ∧ ρ = pE0 S Kk Mo (S3 a b c) h w hs (.cell (kOC ks)) s8 .no) [kC', kD', kE'] ⟨a1, c1, ks, .no, H, rfl⟩ ?_ ?_
    · rintro pre k post _ hx ⟨a2, c2, ks, s8, H, rfl⟩ N2 hN2
      refine ⟨_, rfl, ?_⟩
      unfold parts_7_t_b pE0
      simp
      refine take_fp (by omega) (by omega) fun r a2 c2 r20 r21 => ?_
      simp
      refine kind_fp fun K a3 c3 hK hc => ?_
      have hl := H.len
      have hk : k ∉ pre ++ [kQ, kA, kB, kK] := by
        have nd : ([kC', kD', kE'] ++ [kQ, kA, kB, kK]).Nodup := by decide
        rw [hx] at nd
        intro z
        rw [List.append_assoc, List.nodup_append] at nd
        rcases List.mem_append.mp z with z | z
        · exact nd.2.2 k z k (by simp) rfl
        · have := nd.2.1
          rw [List.cons_append, List.nodup_cons] at this
          exact this.1 (List.mem_append.mpr (.inr z))
      obtain ⟨H2, hn⟩ := H.add hk hK (by omega)
      have pl : pre.length ≤ 3 := by have := congrArg List.length hx; simp at this; omega
      have sa := setAD_kd ks k K hn (by omega)
      simp [sa]
      exact hN2 _ ⟨a3, c3, _, _, H2.weak (fun x hx' => by
        rcases List.mem_cons.mp hx' with e | e
        · exact List.mem_append.mpr (.inl (List.mem_append.mpr (.inr (by rw [e]; simp))))
        · rcases List.mem_append.mp e with e | e
          · exact List.mem_append.mpr (.inl (List.mem_append.mpr (.inl e)))
          · exact List.mem_append.mpr (.inr e)) (by simp; omega), rfl⟩
    · rintro _ ⟨a2, c2, ks, s8, H, rfl⟩
      exact ⟨rfl, hN a2 c2 ks s8 ⟨_, H, by decide⟩⟩
  · exact hN a1 c1 ks _ ⟨_, H.weak (fun _ z => z) (by omega), by decide⟩
theorem c0_ok (st : OC) (hw : w ≤ 5) (s6 s7 s8 s9 : Sl) : parts_9_e_t_0_c0 (pE0 S Kk Mo st h w s6 s7 s8 s9) = .ok ((rowL w 0).map enc) (pE0 S Kk Mo st h w s6 s7 s8 s9) := by
  have rg := rg1_nat w (by omega)
  exact comp_map (e := fun (i : Nat) => D.int (0 + (i : Int))) (e' := enc) (List.range w) (fun (c : Nat) => ((((0 : Nat) : Int), (c : Int)) : Cell)) (by simp [rg, pE0]) rfl (by rw [sizeLine_eq, List.length_range]; omega) (fun c hc => ⟨[.d S, .d Kk, .d Mo, .cell st, .d (.int h), .d (.int w), s6, s7, s8, s9, .d (.int (0 + (c : Int))), .no, .no], rfl, rfl, rfl, [.d S, .d Kk, .d Mo, .cell st, .d (.int h), .d (.int w), s6, s7, s8, s9, .d (.int (0 + (c : Int))), .no, .no], by rw [Int.zero_add]; simp; rfl, rfl, rfl⟩)
theorem c1_ok (st : OC) (h1 : 1 ≤ h) (hw : w ≤ 5) (s6 s7 s8 s9 : Sl) : parts_9_e_t_0_c1 (pE0 S Kk Mo st h w s6 s7 s8 s9) = .ok ((rowL w (h - 1)).map enc) (pE0 S Kk Mo st h w s6 s7 s8 s9) := by
  have rg := rg1_nat w (by omega)
  have sb : subD (.int h) (.int 1) = some (.int ((h - 1 : Nat) : Int)) := by
    have e : (h : Int) - 1 = ((h - 1 : Nat) : Int) := by omega
    show some (D.int ((h : Int) - 1)) = _
    rw [e]
  exact comp_map (e := fun (i : Nat) => D.int (0 + (i : Int))) (e' := enc) (List.range w) (fun (c : Nat) => ((((h - 1 : Nat) : Int), (c : Int)) : Cell)) (by simp [rg, pE0]) rfl (by rw [sizeLine_eq, List.length_range]; omega) (fun c hc => ⟨[.d S, .d Kk, .d Mo, .cell st, .d (.int h), .d (.int w), s6, s7, s8, s9, .d (.int (0 + (c : Int))), .no, .no], rfl, rfl, rfl, [.d S, .d Kk, .d Mo, .cell st, .d (.int h), .d (.int w), s6, s7, s8, s9, .d (.int (0 + (c : Int))), .no, .no], by rw [Int.zero_add]; generalize ((h - 1 : Nat) : Int) = hh at *; simp [sb]; rfl, rfl, rfl⟩)
def notIn (H R : List Cell) : List Cell := R.filter fun c => !decide (c ∈ H)
theorem c2_ok (st : OC) (H R : List Cell) (hl : R.length ≤ 100) (s7 s8 s9 : Sl) : parts_9_e_t_1_c1 [.d S, .d Kk, .d Mo, .cell st, .d (.int h), .d (.int w), .d (.lst (H.map enc)), s7, s8, s9, .no, .d (.lst (R.map enc)), .no] = .ok ((notIn H R).map enc) [.d S, .d Kk, .d Mo, .cell st, .d (.int h), .d (.int w), .d (.lst (H.map enc)), s7, s8, s9, .no, .d (.lst (R.map enc)), .no] := by
  have c := comp_typed (e := enc) (e' := enc) (it := itemsGM (getM 11)) (tg := tgN 12) (tt := boolM (op2 ninX (getM 12) (getM 6))) (te := getM 12) (vs := [12]) (ρ := [.d S, .d Kk, .d Mo, .cell st, .d (.int h), .d (.int w), .d (.lst (H.map enc)), s7, s8, s9, .no, .d (.lst (R.map enc)), .no]) R (fun c => !decide (c ∈ H)) (fun x => x) (by simp) rfl (small_le (by omega)) (fun x hx => ⟨[.d S, .d Kk, .d Mo, .cell st, .d (.int h), .d (.int w), .d (.lst (H.map enc)), s7, s8, s9, .no, .d (.lst (R.map enc)), .d (enc x)], [.d S, .d Kk, .d Mo, .cell st, .d (.int h), .d (.int w), .d (.lst (H.map enc)), s7, s8, s9, .no, .d (.lst (R.map enc)), .d (enc x)], rfl, by
      have nx := ninX_lst x H
      generalize R.map enc = RE
      generalize H.map enc = HE at *
      simp [nx], rfl, rfl, fun _ => ⟨[.d S, .d Kk, .d Mo, .cell st, .d (.int h), .d (.int w), .d (.lst (H.map enc)), s7, s8, s9, .no, .d (.lst (R.map enc)), .d (enc x)], rfl, rfl, rfl⟩⟩)
  rwa [List.map_id'] at c
theorem c3_ok (st : OC) (H R1 R2 : List Cell) (h1 : R1.length ≤ 100) (h2 : R2.length ≤ 100) (s7 s8 : Sl) : parts_9_e_t_1_c0 (pE0 S Kk Mo st h w (.d (.lst (H.map enc))) s7 s8 (.d (encG R1 R2))) = .ok [.lst ((notIn H R1).map enc), .lst ((notIn H R2).map enc)] (pE0 S Kk Mo st h w (.d (.lst (H.map enc))) s7 s8 (.d (encG R1 R2))) :=
  comp_map (e := fun X : List Cell => D.lst (X.map enc)) (e' := fun X : List Cell => D.lst (X.map enc)) [R1, R2] (notIn H) rfl rfl (small_le (by simp)) (fun X hX => by
    have lx : X.length ≤ 100 := by
      simp only [List.mem_cons, List.not_mem_nil, or_false] at hX
      rcases hX with rfl | rfl
      · exact h1
      · exact h2
    have q := c2_ok (S := S) (Kk := Kk) (Mo := Mo) (h := h) (w := w) st H X lx s7 s8 (.d (encG R1 R2))
    refine ⟨[.d S, .d Kk, .d Mo, .cell st, .d (.int h), .d (.int w), .d (.lst (H.map enc)), s7, s8, .d (encG R1 R2), .no, .d (.lst (X.map enc)), .no], rfl, rfl, rfl, [.d S, .d Kk, .d Mo, .cell st, .d (.int h), .d (.int w), .d (.lst (H.map enc)), s7, s8, .d (encG R1 R2), .no, .d (.lst (X.map enc)), .no], ?_, rfl, rfl⟩
    rw [lstM_ap, q])
theorem parts9_ok (hh : h ≤ 5) (h1 : 1 ≤ h) (hw : w ≤ 5) (a c : Int) (H : List Cell) (s7 s8 : Sl) {N : DL.Env → Prop} (hN : ∀ (a c : Int) (g0 g1 : List Cell), g0.Sublist (notIn H (boardN h w)) → g1.Sublist (notIn H (boardN h w)) → N (pE0 S Kk Mo (S3 a b c) h w (.d (.lst (H.map enc))) s7 s8 (.d (encG g0 g1)))) : Wp parts_9 (pE0 S Kk Mo (S3 a b c) h w (.d (.lst (H.map enc))) s7 s8 (.d (encG [] []))) (fun fl ρ' => fl = .nx ∧ N ρ') X := by
  have rl : ∀ r, (rowL w r).length ≤ 100 := fun r => by simp [rowL]; omega
  unfold parts_9 pE0
  simp
  refine take_fp (by omega) (by omega) fun r a1 c1 r0 r1 => ?_
  simp
  split
  · unfold parts_9_t
    simp
    refine some_cells_fp (out := H) hh hw (by omega) (by omega) fun F a2 c2 hF hn => ?_
    simp
    refine some_cells_fp (out := H) hh hw (by omega) (by omega) fun F2 a3 c3 hF2 hn2 => ?_
    simp
    exact hN a3 c3 F F2 (sub_free hF hn) (sub_free hF2 hn2)
  · unfold parts_9_e parts_9_e_t
    simp
    refine take_fp (by omega) (by omega) fun r a2 c2 r20 r21 => ?_
    simp
    split
    · have q0 : ∀ s9, parts_9_e_t_0_c0 [.d S, .d Kk, .d Mo, .cell (S3 a2 b c2), .d (.int h), .d (.int w), .d (.lst (H.map enc)), s7, s8, s9, .no, .no, .no] = _ := fun s9 => c0_ok (S := S) (Kk := Kk) (Mo := Mo) (h := h) (S3 a2 b c2) hw (.d (.lst (H.map enc))) s7 s8 s9
      have q1 : ∀ s9, parts_9_e_t_0_c1 [.d S, .d Kk, .d Mo, .cell (S3 a2 b c2), .d (.int h), .d (.int w), .d (.lst (H.map enc)), s7, s8, s9, .no, .no, .no] = _ := fun s9 => c1_ok (S := S) (Kk := Kk) (Mo := Mo) (h := h) (S3 a2 b c2) h1 hw (.d (.lst (H.map enc))) s7 s8 s9
      have q3 : parts_9_e_t_1_c0 [.d S, .d Kk, .d Mo, .cell (S3 a2 b c2), .d (.int h), .d (.int w), .d (.lst (H.map enc)), s7, s8, .d (.tup [.lst ((rowL w 0).map enc), .lst ((rowL w (h - 1)).map enc)]), .no, .no, .no] = _ := c3_ok (S := S) (Kk := Kk) (Mo := Mo) (h := h) (w := w) (S3 a2 b c2) H (rowL w 0) (rowL w (h - 1)) (rl _) (rl _) s7 s8
      have n1 := hN a2 c2 (notIn H (rowL w 0)) (notIn H (rowL w (h - 1))) ((row_sub h w 0 (by omega)).filter _) ((row_sub h w (h - 1) (by omega)).filter _)
      unfold pE0 at q0 q1 q3 n1
      unfold parts_9_e_t_0 parts_9_e_t_1
      generalize hA : (rowL w 0).map (enc : Cell → D) = A at *
      generalize hB : (rowL w (h - 1)).map (enc : Cell → D) = B at *
      generalize notIn H (rowL w 0) = A2 at *
      generalize notIn H (rowL w (h - 1)) = B2 at *
      simp [Wp_of (q0 _), Wp_of (q1 _), Wp_of q3]
      exact n1
    · exact hN a2 c2 [] [] (by simp) (by simp)
end
theorem parts_fp (ns : List Int) (k most : Nat) (hk : k ≤ 1000) (m0 : 0 < most) (m8 : most ≤ 8) {P : D → List OC → Prop} {Y : Str → List OC → Prop} (hP : ∀ p, PB p → P (encP p) []) : Fp (Mi.law_parts [.d (.lst (ns.map D.int)), .d (.int k), .d (.int most)]) P Y := by
  rw [parts__eq, Fp_fnM]
  have bg := begin_fp ns k hk (P := fun d os => ∃ a b, d = .lst [.int a, .int b, .int 0] ∧ os = []) (Y := fun _ _ => False) fun a b => ⟨a, b, rfl, rfl⟩
  obtain ⟨_, _, bg, a, b, rfl, rfl⟩ := Fp_ok' bg
  generalize D.lst (ns.map D.int) = S at *
  refine Wp_cut (fun ρ' => ρ' = [.d S, .d (.int k), .d (.int most), .cell (S3 a b 0), .no, .no, .no, .no, .no, .no, .no, .no, .no]) (fun N hN => ?_) ?_
  · unfold parts_0
    simp [Fp_of bg]
    exact hN _ rfl
  rintro _ rfl
  refine Wp_cut (fun ρ' => ∃ (a c : Int) (h w : Nat), (1 ≤ h ∧ h ≤ 4 ∧ 2 ≤ w ∧ w ≤ 4 ∧ 4 ≤ h * w) ∧ ρ' = pE0 S (.int k) (.int most) (S3 a b c) h w .no .no .no .no) (fun N hN => ?_) ?_
  · unfold parts_1
    simp
    refine take_fp (by omega) (by omega) fun r a1 c1 r0 r1 => ?_
    obtain ⟨h, w, hw, e⟩ := sizes_at r r0 (by omega)
    simp [e, tgU_ap]
    exact hN _ ⟨a1, c1, h, w, hw, rfl⟩
  rintro _ ⟨a, c, h, w, ⟨h1, h4, w2, w4, hw⟩, rfl⟩
  refine Wp_cut (fun ρ' => ρ' = pE0 S (.int k) (.int most) (S3 a b c) h w (.d (.lst [])) .no .no .no) (fun N hN => by unfold parts_2 pE0; simp; exact hN _ rfl) ?_
  rintro _ rfl
  refine Wp_cut (fun ρ' => ∃ (a c : Int) (H : List Cell), H.Sublist (boardN h w) ∧ H.length ≤ 2 ∧ ρ' = pE0 S (.int k) (.int most) (S3 a b c) h w (.d (.lst (H.map enc))) .no .no .no) (fun N hN => parts3_ok (by omega) (by omega) a c fun a c H p q => hN _ ⟨a, c, H, p, q, rfl⟩) ?_
  rintro _ ⟨a, c, H, hH, hl, rfl⟩
  refine Wp_cut (fun ρ' => ∃ (a c : Int) (ks : List (Kd × Kind)), KsI [kK] 1 ks ∧ ρ' = pE0 S (.int k) (.int most) (S3 a b c) h w (.d (.lst (H.map enc))) (.cell (kOC ks)) .no .no) (fun N hN => parts4_ok a c _ fun a c ks p => hN _ ⟨a, c, ks, p, rfl⟩) ?_
  rintro _ ⟨a, c, ks, hk, rfl⟩
  refine Wp_cut (fun ρ' => ∃ (a c : Int) (ks : List (Kd × Kind)), KsI [kA, kB, kK] 2 ks ∧ ρ' = pE0 S (.int k) (.int most) (S3 a b c) h w (.d (.lst (H.map enc))) (.cell (kOC ks)) .no .no) (fun N hN => parts5_ok a c _ ks hk fun a c ks p => hN _ ⟨a, c, ks, p, rfl⟩) ?_
  rintro _ ⟨a, c, ks, hk, rfl⟩
  refine Wp_cut (fun ρ' => ∃ (a c : Int) (ks : List (Kd × Kind)), KsI [kQ, kA, kB, kK] 3 ks ∧ ρ' = pE0 S (.int k) (.int most) (S3 a b c) h w (.d (.lst (H.map enc))) (.cell (kOC ks)) .no .no) (fun N hN => parts6_ok a c _ ks hk fun a c ks p => hN _ ⟨a, c, ks, p, rfl⟩) ?_
  rintro _ ⟨a, c, ks, hk, rfl⟩
  refine Wp_cut (fun ρ' => ∃ (a c : Int) (ks : List (Kd × Kind)) (s8 : Sl), (∃ S, KsI S 6 ks ∧ ∀ k ∈ S, k.i.val < 20) ∧ ρ' = pE0 S (.int k) (.int most) (S3 a b c) h w (.d (.lst (H.map enc))) (.cell (kOC ks)) s8 .no) (fun N hN => parts7_ok a c _ ks hk fun a c ks s8 p => hN _ ⟨a, c, ks, s8, p, rfl⟩) ?_
  rintro _ ⟨a, c, ks, s8, hk, rfl⟩
  refine Wp_cut (fun ρ' => ρ' = pE0 S (.int k) (.int most) (S3 a b c) h w (.d (.lst (H.map enc))) (.cell (kOC ks)) s8 (.d (encG [] []))) (fun N hN => by unfold parts_8 pE0; simp; exact hN _ rfl) ?_
  rintro _ rfl
  refine Wp_cut (fun ρ' => ∃ (a c : Int) (g0 g1 : List Cell), g0.Sublist (notIn H (boardN h w)) ∧ g1.Sublist (notIn H (boardN h w)) ∧ ρ' = pE0 S (.int k) (.int most) (S3 a b c) h w (.d (.lst (H.map enc))) (.cell (kOC ks)) s8 (.d (encG g0 g1))) (fun N hN => parts9_ok (by omega) h1 (by omega) a c H _ s8 fun a c g0 g1 p q => hN _ ⟨a, c, g0, g1, p, q, rfl⟩) ?_
  rintro _ ⟨a, c, g0, g1, hg0, hg1, rfl⟩
  unfold parts_10 pE0
  have oc : ocD (kOC ks) = kindsD ks := rfl
  simp [oc]
  refine take_fp (by omega) (by omega) fun r a2 c2 r20 r21 => ?_
  obtain ⟨st, hst, e⟩ := stuck_at' r r20 r21
  simp [e]
  exact hP ⟨h, w, H, ks, g0, g1, st⟩ ⟨h1, h4, w2, w4, hw, hH, hl, hk, hg0, hg1, hst⟩
end DL
end
section
namespace DL
open PySem PySem.Spec L2 DLS
open PyProof.Rows hiding St
def y2_0 : MS := setCM 1 (pureM (.k [] []))
def y2_1_b : MS := setGM setAD 1 (getM 2) (tupM (consM (lstM (callO listCD (consM (op2 ixX (op2 ixX (op2 ixX (getM 0) (pureM (.int 3))) (getM 2)) (pureM (.int 0))) (pureM [])))) (consM (lstM (callO listCD (consM (op2 ixX (op2 ixX (op2 ixX (getM 0) (pureM (.int 3))) (getM 2)) (pureM (.int 1))) (pureM [])))) (consM (op2 ixX (op2 ixX (op2 ixX (getM 0) (pureM (.int 3))) (getM 2)) (pureM (.int 2))) (pureM [])))))
def y2_1 : MS := forD (itemsGM (op2 ixX (getM 0) (pureM (.int 3)))) (tgN 2) y2_1_b
def y2_2 : MS := retM (makeM 6 (iniF 13 "Yard" Mi.Yard_ini) (consM (op2 ixX (getM 0) (pureM (.int 0))) (consM (op2 ixX (getM 0) (pureM (.int 1))) (consM (lstM (callO listCD (consM (op2 ixX (getM 0) (pureM (.int 2))) (pureM [])))) (consM (rdM 1) (consM (tupM (consM (lstM (callO listCD (consM (op2 ixX (op2 ixX (getM 0) (pureM (.int 4))) (pureM (.int 0))) (pureM [])))) (consM (lstM (callO listCD (consM (op2 ixX (op2 ixX (getM 0) (pureM (.int 4))) (pureM (.int 1))) (pureM [])))) (pureM [])))) (consM (op2 ixX (getM 0) (pureM (.int 5))) (pureM []))))))))
theorem y2__eq : Mi.law_yard2 = fnM false 3 (seqM y2_0 (seqM y2_1 y2_2)) := rfl
theorem filt_len {α : Type} (q : α → Bool) : ∀ l : List α, (l.filter q).length + (l.filter fun x => !q x).length = l.length
  | [] => rfl
  | a :: l => by
    have := filt_len q l
    cases h : q a <;> simp [List.filter_cons, h] <;> omega
section
variable {p : Parts}
theorem PB5.yin (H : PB5 p) : YIn p.h p.w p.holes p.ks p.g0 p.g1 p.stuck := by
  have h1 := H.h1; have h4 := H.h4; have w2 := H.w2; have w4 := H.w4
  have rb := rising_board p.h p.w (by omega) (by omega)
  have bl := board_le (h := p.h) (w := p.w) (by omega) (by omega)
  obtain ⟨S, K, _⟩ := H.ks
  refine ⟨by omega, by omega, by omega, by omega, H.st, pw_sub rb H.ho, fun c hc => board_in (H.ho.subset hc), ?_, K.len, K.nd, ?_, ?_, by have := H.hl; omega⟩
  · obtain ⟨K0, hk, _⟩ := K.ki
    exact List.length_pos_of_mem hk
  · intro q hq
    obtain ⟨b, c, _⟩ := K.ok q hq
    refine ⟨?_, by have := b.ll; omega, by have := b.lr; omega⟩
    unfold okKind stepsAll sides01
    have sa : (q.2.leaps ++ q.2.rides).all isStep = true := List.all_eq_true.mpr fun s hs => by
      rcases List.mem_append.mp hs with hs | hs
      · exact b.l.st s hs
      · exact b.r.st s hs
    simp only [b.l.ri, b.r.ri, sa, c, decide_true, Bool.and_self]
  · intro g hg
    have gs : g.Sublist (freeN p) := by
      rcases hg with rfl | rfl
      · exact H.g0
      · exact H.g1
    have fs : (freeN p).Sublist (boardN p.h p.w) := List.filter_sublist
    refine ⟨pw_sub rb (gs.trans fs), by have := (gs.trans fs).length_le; omega, fun c hc => ?_⟩
    have hf := gs.subset hc
    unfold freeN at hf
    rw [List.mem_filter] at hf
    rw [board_in hf.1, hf.2]; rfl
theorem PB.yin (H : PB p) : YIn p.h p.w p.holes p.ks p.g0 p.g1 p.stuck := H.to5.yin
theorem PB5.good (H : PB5 p) : YGood (yardOf p) := H.yin.good
theorem PB.good (H : PB p) : YGood (yardOf p) := H.yin.good
theorem PB5.free (H : PB5 p) : 2 ≤ (freeN p).length ∧ (freeN p).length ≤ 25 := by
  have bl := boardN_len p.h p.w
  have h1 := H.h1; have h4 := H.h4; have w2 := H.w2; have w4 := H.w4; have hw := H.hw
  have up : p.h * p.w ≤ 5 * 5 := Nat.mul_le_mul h4 w4
  have nd := rising_nodup (rising_board p.h p.w (by omega) (by omega))
  refine ⟨?_, ?_⟩
  · have hs : ((boardN p.h p.w).filter fun c => decide (c ∈ p.holes)).length ≤ p.holes.length := nodup_len (nd.sublist List.filter_sublist) fun x hx => by simpa using (List.mem_filter.mp hx).2
    have hl := H.hl
    have := filt_len (fun c => decide (c ∈ p.holes)) (boardN p.h p.w)
    unfold freeN
    omega
  · have : (freeN p).length ≤ (boardN p.h p.w).length := List.length_filter_le _ _
    omega
theorem parts_look5 (H : PB5 p) {k : Kd} (hk : k ∈ p.ks.map (·.1)) : ∃ K, lookK (yardOf p).kinds k = some K ∧ (k, K) ∈ p.ks := by
  obtain ⟨⟨k', K⟩, hq, rfl⟩ := List.mem_map.mp hk
  refine ⟨K, ?_, hq⟩
  show lookK (ordK p.ks) k' = some K
  rw [lookK_ord H.yin.nd]
  exact lookK_mem H.yin.nd hq
theorem encP_0 : ixX (encP p) (.int 0) = some (.int p.h) := rfl
theorem encP_1 : ixX (encP p) (.int 1) = some (.int p.w) := rfl
theorem encP_2 : ixX (encP p) (.int 2) = some (.lst (p.holes.map enc)) := rfl
theorem encP_3 : ixX (encP p) (.int 3) = some (kindsD p.ks) := rfl
theorem encP_4 : ixX (encP p) (.int 4) = some (encG p.g0 p.g1) := rfl
theorem encP_5 : ixX (encP p) (.int 5) = some (.str p.stuck) := rfl
theorem items_kd (ks : List (Kd × Kind)) : itemsG (kindsD ks) = some (ks.map fun q => enc q.1) := by
  unfold kindsD
  rw [itemsG_dic, if_pos (allK_kd ks)]
theorem yard2_ap5 (H : PB5 p) : Mi.law_yard2 [.d (encP p)] = .ok (encY (yardOf p)) [] := by
  have Y := H.yin
  have ini := ini_ap Y
  have e0 := encP_0 (p := p); have e1 := encP_1 (p := p); have e2 := encP_2 (p := p); have e3 := encP_3 (p := p); have e4 := encP_4 (p := p); have e5 := encP_5 (p := p)
  have key : Fp (Mi.law_yard2 [.d (encP p)]) (fun d os => d = encY (yardOf p) ∧ os = []) (fun _ _ => False) := by
    rw [y2__eq, Fp_fnM]
    refine Wp_cut (fun ρ' => ρ' = [.d (encP p), .cell (kOC []), .no]) (fun N hN => by unfold y2_0; simp; exact hN _ rfl) ?_
    rintro _ rfl
    refine Wp_cut (fun ρ' => ∃ s, ρ' = [.d (encP p), .cell (kOC p.ks), s]) (fun N hN => ?_) ?_
    · unfold y2_1
      simp [e3, items_kd]
      refine Wp_forT (e := fun q : Kd × Kind => enc q.1) (fun pre ρ => ∃ s, ρ = [.d (encP p), .cell (kOC pre), s]) p.ks ⟨_, rfl⟩ ?_ ?_
      · rintro pre q post _ hq ⟨s, rfl⟩ N2 hN2
        have hm : q ∈ p.ks := by rw [hq]; simp
        have lk := lookK_mem Y.nd hm
        have ex := ixX_kd p.ks q.1 q.2 lk
        have nd := Y.nd
        rw [hq, List.map_append, List.map_cons] at nd
        have hn : q.1 ∉ pre.map (·.1) := fun z => (List.nodup_append.mp nd).2.2 _ z _ (by simp) rfl
        have hl : pre.length ≤ 1000 := by
          have := Y.k6
          rw [hq, List.length_append] at this
          omega
        have sd : setAD (kOC pre) (enc q.1) (.tup [.lst (q.2.leaps.map enc), .lst (q.2.rides.map enc), .int q.2.crown]) = some (kOC (pre ++ [q])) := setAD_kd pre q.1 q.2 hn hl
        refine ⟨_, rfl, ?_⟩
        unfold y2_1_b
        have fin := hN2 _ ⟨.d (enc q.1), rfl⟩
        generalize kOC (pre ++ [q]) = o2 at *
        generalize kOC pre = o1 at *
        simp [e3, ex, sd]
        exact fin
      · rintro _ ⟨s, rfl⟩
        exact ⟨rfl, hN _ ⟨s, rfl⟩⟩
    · rintro _ ⟨s, rfl⟩
      have ro : ocD (kOC p.ks) = kindsD p.ks := rfl
      have g0 : ixX (encG p.g0 p.g1) (.int 0) = some (.lst (p.g0.map enc)) := rfl
      have g1 : ixX (encG p.g0 p.g1) (.int 1) = some (.lst (p.g1.map enc)) := rfl
      have ni : noIns (kindsD p.ks) = true := noIns_kD p.ks
      unfold y2_2
      simp [e0, e1, e2, e4, e5, g0, g1, ro, ni, ini]
      exact rfl
  obtain ⟨_, _, e, rfl, rfl⟩ := Fp_ok' key
  exact e
structure PIb (p : Parts) (k : Nat) (F : List Cell) (P : List Piece) : Prop where
  len : P.length = k
  perm : (P.map (·.cell) ++ F).Perm (freeN p)
  side : ∀ q ∈ P, q.side = 0 ∨ q.side = 1
  kd : ∀ q ∈ P, q.kd ∈ p.ks.map (·.1)
  k0 : 1 ≤ k → ∃ q ∈ P, q.kd = kK
theorem PIb.add {k : Nat} {F : List Cell} {P : List Piece} (H : PIb p k F P) (i : Nat) (hi : i < F.length) (sd : Int) (kd : Kd) (h1 : sd = 0 ∨ sd = 1) (h2 : kd ∈ p.ks.map (·.1)) (h3 : k = 0 → kd = kK) : PIb p (k + 1) (F.eraseIdx i) (P ++ [⟨F[i], sd, kd⟩]) := by
  refine ⟨by rw [List.length_append, H.len]; rfl, ?_, ?_, ?_, ?_⟩
  · rw [List.map_append]
    refine List.Perm.trans ?_ H.perm
    rw [List.append_assoc]
    exact List.Perm.append_left _ (erase_perm F i hi)
  · intro q hq
    rcases List.mem_append.mp hq with hq | hq
    · exact H.side q hq
    · rw [List.mem_singleton.mp hq]; exact h1
  · intro q hq
    rcases List.mem_append.mp hq with hq | hq
    · exact H.kd q hq
    · rw [List.mem_singleton.mp hq]; exact h2
  · intro _
    by_cases z : k = 0
    · exact ⟨⟨F[i], sd, kd⟩, by simp, h3 z⟩
    · obtain ⟨q, hq, e⟩ := H.k0 (by omega)
      exact ⟨q, by simp [hq], e⟩
theorem PIb.pos5 (H : PB5 p) {k : Nat} {F : List Cell} {P : List Piece} (hp : PIb p k F P) (h1 : 1 ≤ k) (h10 : k ≤ 10) (t : Int) (tn : t = 0 ∨ t = 1) : isPos (yardOf p) ⟨t, srtE P⟩ = true := by
  have rb := rising_board p.h p.w (by have := H.h4; omega) (by have := H.w4; omega)
  have ndF : (freeN p).Nodup := (rising_nodup rb).sublist List.filter_sublist
  have nd := hp.perm.nodup_iff.mpr ndF
  have fr : ∀ q ∈ P, isFree (yardOf p) q.cell = true := fun q hq => by
    have : q.cell ∈ freeN p := hp.perm.mem_iff.mp (List.mem_append.mpr (.inl (List.mem_map.mpr ⟨q, hq, rfl⟩)))
    unfold freeN at this
    rw [List.mem_filter] at this
    have bi := board_in this.1
    unfold isFree onBoard
    show (_ && !decide (q.cell ∈ p.holes)) = true
    rw [this.2, Bool.and_true]
    exact bi
  refine IsPos.mk' tn (by rw [hp.len]; exact h1) (by rw [hp.len]; exact h10) ?_ (List.nodup_append.mp nd).1 ?_
  · intro q hq
    obtain ⟨K, hK, _⟩ := parts_look5 H (hp.kd q hq)
    exact ⟨fr q hq, hp.side q hq, by rw [hK]; rfl⟩
  · obtain ⟨q, hq, e⟩ := hp.k0 h1
    refine ⟨q, hq, hp.side q hq, ?_⟩
    obtain ⟨S, KI, _⟩ := H.ks
    obtain ⟨K0, hK0, c0⟩ := KI.ki
    obtain ⟨K, hK, hin⟩ := parts_look5 H (hp.kd q hq)
    unfold crownOf
    rw [hK]
    have lk := lookK_mem KI.nd hK0
    have lk2 := lookK_mem KI.nd hin
    dsimp only at lk lk2
    rw [e] at lk2
    rw [lk] at lk2
    cases lk2
    exact c0
theorem PIb.pos (H : PB p) {k : Nat} {F : List Cell} {P : List Piece} (hp : PIb p k F P) (h1 : 1 ≤ k) (h10 : k ≤ 10) (t : Int) (tn : t = 0 ∨ t = 1) : isPos (yardOf p) ⟨t, srtE P⟩ = true := hp.pos5 H.to5 h1 h10 t tn
end
end DL
end
section
namespace DL
open PySem PySem.Spec L2 DLS
open PyProof.Rows hiding St
section
variable {p : Parts} {S Kk Mo : D} {b : Int} {X : Str → DL.Env → Prop}
end
end DL
end
section
/-! names of kin, the law's side; an even board -/
namespace DL
open PySem PySem.Spec L2 DLS
open PyProof.Rows hiding St
def lb0 : MS := ifM (andM (boolM (op2 inX (op2 ixX (getM 1) (negM (pureM (.int 1)))) (pureM (.str "13")))) (boolM (op2 neD (op2 ixX (getM 0) (pureM (.int 0))) (op2 ixX (getM 0) (pureM (.int 1)))))) (retM (pureM (.bl false))) skipM
def lb1_c0 : M (List D) := compO (itemsGM (op2 ixX (getM 0) (pureM (.int 2)))) (tgN 6) (pureM true) (callM Mi.law_over_cell (mdM [false, false, false] (consA (getM 0) (consA (getM 1) (consA (getM 6) (pureM [])))))) [6]
def lb1 : MS := ifM (boolM (op2 neD (lstM (callO sortG (consM (lstM lb1_c0) (pureM [])))) (op2 ixX (getM 0) (pureM (.int 2))))) (retM (pureM (.bl false))) skipM
def lb2_b_b_c0 : M (List D) := compO (itemsGM (getM 3)) (tgN 7) (pureM true) (callM Mi.law_over_step (mdM [false, false] (consA (getM 1) (consA (getM 7) (pureM []))))) [7]
def lb2_b_b : MS := ifM (boolM (op2 neD (lstM (callO sortG (consM (lstM lb2_b_b_c0) (pureM [])))) (getM 3))) (retM (pureM (.bl false))) skipM
def lb2_b : MS := forD (itemsGM (slM (op2 ixX (op2 ixX (getM 0) (pureM (.int 3))) (getM 2)) (pureM none) (partM (pureM (.int 2))))) (tgN 3) lb2_b_b
def lb2 : MS := forD (itemsGM (op2 ixX (getM 0) (pureM (.int 3)))) (tgN 2) lb2_b
def lb3_b_0 : MS := setM 5 (op2 ixX (lstM (sizeM (consM (getM 4) (consM (op2 subD (pureM (.int 1)) (getM 4)) (pureM []))))) (callD intCD (consM (op2 eqD (op2 ixX (getM 1) (pureM (.int 0))) (pureM (.str "x"))) (pureM []))))
def lb3_b_1_c0 : M (List D) := compO (itemsGM (op2 ixX (op2 ixX (getM 0) (pureM (.int 4))) (getM 4))) (tgN 6) (pureM true) (callM Mi.law_over_cell (mdM [false, false, false] (consA (getM 0) (consA (getM 1) (consA (getM 6) (pureM [])))))) [6]
def lb3_b_1 : MS := ifM (boolM (op2 neD (lstM (callO sortG (consM (lstM lb3_b_1_c0) (pureM [])))) (op2 ixX (op2 ixX (getM 0) (pureM (.int 4))) (getM 5)))) (retM (pureM (.bl false))) skipM
def lb3_b : MS := seqM lb3_b_0 lb3_b_1
def lb3 : MS := forD (itemsGM (tupM (consM (pureM (.int 0)) (consM (pureM (.int 1)) (pureM []))))) (tgN 4) lb3_b
def lb4 : MS := retM (pureM (.bl true))
theorem lb_eq : Mi.law_bears = fnM false 8 (seqM lb0 (seqM lb1 (seqM lb2 (seqM lb3 lb4)))) := rfl
def le0 : MS := setM 2 (callM Mi.law_parts (mdM [false, false, false] (consA (getM 0) (consA (getM 1) (consA (pureM (.int 8)) (pureM []))))))
def le1 : MS := setXM 3 (callM Mi.law_begin (mdM [false, false] (consA (getM 0) (consA (op2 addD (getM 1) (pureM (.int 1))) (pureM [])))))
def le2 : MS := ifM (boolM (op2 eqD (callM Mi.law_take (mdM [true, false] (bindM (haveS 3) fun _ => consS 3 (consA (pureM (.int 2)) (pureM []))))) (pureM (.int 0)))) (retM (getM 2)) skipM
def le3 : MS := asgM (op2 ixX (lstM (sizeM (consM (tupM (consM (pureM (.int 2)) (consM (pureM (.int 2)) (pureM [])))) (consM (tupM (consM (pureM (.int 3)) (consM (pureM (.int 3)) (pureM [])))) (consM (tupM (consM (pureM (.int 2)) (consM (pureM (.int 3)) (pureM [])))) (consM (tupM (consM (pureM (.int 3)) (consM (pureM (.int 3)) (pureM [])))) (pureM []))))))) (callM Mi.law_take (mdM [true, false] (bindM (haveS 3) fun _ => consS 3 (consA (pureM (.int 4)) (pureM [])))))) (tgU 2 (tgs1 (tgN 4) (tgs1 (tgN 5) tgs0)))
def le4_t_0 : MS := setM 4 (op2 addD (pureM (.int 4)) (callM Mi.law_take (mdM [true, false] (bindM (haveS 3) fun _ => consS 3 (consA (pureM (.int 2)) (pureM []))))))
def le4_t_1 : MS := setM 5 (getM 4)
def le4_t : MS := seqM le4_t_0 le4_t_1
def le4 : MS := ifM (boolM (op2 eqD (callM Mi.law_take (mdM [true, false] (bindM (haveS 3) fun _ => consS 3 (consA (pureM (.int 6)) (pureM []))))) (pureM (.int 1)))) le4_t skipM
def le5 : MS := setM 6 (tupM (consM (lstM (sizeM (pureM []))) (consM (lstM (sizeM (pureM []))) (pureM []))))
def le6 : MS := setM 7 (callM Mi.law_take (mdM [true, false] (bindM (haveS 3) fun _ => consS 3 (consA (pureM (.int 4)) (pureM [])))))
def le7_t_c0 : M (List D) := compO (rg1M (consM (getM 5) (pureM []))) (tgN 9) (pureM true) (tupM (consM (pureM (.int 0)) (consM (getM 9) (pureM [])))) [9]
def le7_t_c1 : M (List D) := compO (rg1M (consM (getM 5) (pureM []))) (tgN 9) (pureM true) (tupM (consM (op2 subD (getM 4) (pureM (.int 1))) (consM (getM 9) (pureM [])))) [9]
def le7_t : MS := setM 6 (tupM (consM (lstM le7_t_c0) (consM (lstM le7_t_c1) (pureM []))))
def le7 : MS := ifM (boolM (op2 eqD (getM 7) (pureM (.int 1)))) le7_t skipM
def le8_t : MS := setM 6 (tupM (consM (lstM (sizeM (consM (tupM (consM (pureM (.int 0)) (consM (pureM (.int 0)) (pureM [])))) (pureM [])))) (consM (lstM (sizeM (consM (tupM (consM (op2 subD (getM 4) (pureM (.int 1))) (consM (op2 subD (getM 5) (pureM (.int 1))) (pureM [])))) (pureM [])))) (pureM []))))
def le8 : MS := ifM (boolM (op2 eqD (getM 7) (pureM (.int 2)))) le8_t skipM
def le9_t : MS := setM 6 (tupM (consM (lstM (sizeM (consM (tupM (consM (op2 divD (getM 4) (pureM (.int 2))) (consM (op2 divD (getM 5) (pureM (.int 2))) (pureM [])))) (pureM [])))) (consM (lstM (sizeM (consM (tupM (consM (op2 divD (getM 4) (pureM (.int 2))) (consM (op2 divD (getM 5) (pureM (.int 2))) (pureM [])))) (pureM [])))) (pureM []))))
def le9 : MS := ifM (boolM (op2 eqD (getM 7) (pureM (.int 3)))) le9_t skipM
def le10 : MS := setM 8 (lstM (sizeM (pureM [])))
def le11_t_0 : MS := setM 8 (lstM (sizeM (consM (tupM (consM (pureM (.int 1)) (consM (pureM (.int 1)) (pureM [])))) (pureM []))))
def le11_t_1_c1 : M (List D) := compO (itemsGM (getM 10)) (tgN 11) (boolM (op2 neD (getM 11) (tupM (consM (pureM (.int 1)) (consM (pureM (.int 1)) (pureM [])))))) (getM 11) [11]
def le11_t_1_c0 : M (List D) := compO (itemsGM (getM 6)) (tgN 10) (pureM true) (lstM le11_t_1_c1) [10]
def le11_t_1 : MS := setM 6 (callD tupC (consM (lstM le11_t_1_c0) (pureM [])))
def le11_t : MS := seqM le11_t_0 le11_t_1
def le11 : MS := ifM (andM (boolM (op2 eqD (callM Mi.law_take (mdM [true, false] (bindM (haveS 3) fun _ => consS 3 (consA (pureM (.int 4)) (pureM []))))) (pureM (.int 1)))) (boolM (op2 neD (getM 7) (pureM (.int 3))))) le11_t skipM
def le12 : MS := retM (tupM (consM (getM 4) (consM (getM 5) (consM (getM 8) (consM (op2 ixX (getM 2) (pureM (.int 3))) (consM (getM 6) (consM (op2 ixX (getM 2) (pureM (.int 5))) (pureM []))))))))
theorem le_eq : Mi.law_even = fnM false 12 (seqM le0 (seqM le1 (seqM le2 (seqM le3 (seqM le4 (seqM le5 (seqM le6 (seqM le7 (seqM le8 (seqM le9 (seqM le10 (seqM le11 le12)))))))))))) := rfl
theorem law_names_ap : Mi.law_names [] = .ok (.lst (nms.map enc)) [] := by kernel_rfl
def cellLw (h w : Int) (n : Nm) (c : Cell) : Cell := match n.q.val with
  | 0 => (c.1, if n.f = true then w - 1 - c.2 else c.2)
  | 1 => (if n.f = true then w - 1 - c.2 else c.2, h - 1 - c.1)
  | 2 => (h - 1 - c.1, w - 1 - if n.f = true then w - 1 - c.2 else c.2)
  | _ => (w - 1 - if n.f = true then w - 1 - c.2 else c.2, c.1)
theorem cellLw_eq (h w : Int) (c : Cell) : ∀ n : Nm, cellLw h w n c = cellOv h w n c := nm_ind fun x f => by
  obtain ⟨a, b⟩ := c
  cases f <;> refine ⟨?_, ?_, ?_, ?_⟩ <;> unfold cellLw cellOv <;> simp [qstep] <;> omega
section
variable {p : Parts}
theorem law_over_cell_lw (c : Cell) : ∀ n : Nm, Mi.law_over_cell [.d (encP p), .d (encN n), .d (enc c)] = .ok (enc (cellLw p.h p.w n c)) [] := nm_ind fun x f => by cases x <;> cases f <;> exact ⟨by kernel_rfl, by kernel_rfl, by kernel_rfl, by kernel_rfl⟩
theorem law_over_cell_ap (c : Cell) (n : Nm) : Mi.law_over_cell [.d (encP p), .d (encN n), .d (enc c)] = .ok (enc (cellOv p.h p.w n c)) [] := by rw [law_over_cell_lw, cellLw_eq]
def stepLw (n : Nm) (c : Cell) : Cell :=
  let d : Cell := match n.q.val with
    | 0 => (c.1, if n.f = true then 0 - c.2 else c.2)
    | 1 => (if n.f = true then 0 - c.2 else c.2, 0 - c.1)
    | 2 => (0 - c.1, 0 - if n.f = true then 0 - c.2 else c.2)
    | _ => (0 - if n.f = true then 0 - c.2 else c.2, c.1)
  if n.x = true then (0 - d.1, 0 - d.2) else d
theorem stepLw_eq (c : Cell) : ∀ n : Nm, stepLw n c = stepOv n c := nm_ind fun x f => by
  obtain ⟨a, b⟩ := c
  cases x <;> cases f <;> refine ⟨?_, ?_, ?_, ?_⟩ <;> unfold stepLw stepOv <;> simp [qstepS] <;> omega
theorem law_over_step_lw (c : Cell) : ∀ n : Nm, Mi.law_over_step [.d (encN n), .d (enc c)] = .ok (enc (stepLw n c)) [] := nm_ind fun x f => by cases x <;> cases f <;> exact ⟨by kernel_rfl, by kernel_rfl, by kernel_rfl, by kernel_rfl⟩
theorem law_over_step_ap (c : Cell) (n : Nm) : Mi.law_over_step [.d (encN n), .d (enc c)] = .ok (enc (stepOv n c)) [] := by rw [law_over_step_lw, stepLw_eq]
end
end DL
end
section
/-! the law's bears and over -/
namespace DL
open PySem PySem.Spec L2 DLS
open PyProof.Rows hiding St
section
variable {p : Parts}
theorem first_x : ∀ n : Nm, ∃ z, ixX (enc n) (.int 0) = some z ∧ eqD z (.str "x") = some (.bl n.x) := nm_ind fun x f => by
  cases x <;> cases f <;> exact ⟨⟨_, rfl, by kernel_rfl⟩, ⟨_, rfl, by kernel_rfl⟩, ⟨_, rfl, by kernel_rfl⟩, ⟨_, rfl, by kernel_rfl⟩⟩
theorem last_13 : ∀ n : Nm, ∃ z, ixX (enc n) (.int (-1)) = some z ∧ inX z (.str "13") = some (.bl (decide (n.q.val % 2 = 1))) := nm_ind fun x f => by
  cases x <;> cases f <;> exact ⟨⟨_, rfl, by kernel_rfl⟩, ⟨_, rfl, by kernel_rfl⟩, ⟨_, rfl, by kernel_rfl⟩, ⟨_, rfl, by kernel_rfl⟩⟩
def kbE (p : Parts) (n : Nm) (s2 s3 s4 s5 : Sl) : DL.Env := [.d (encP p), .d (enc n), s2, s3, s4, s5, .no, .no]
theorem cellsL_ok (n : Nm) (L : List Cell) (hl : L.length ≤ 1000) (s2 s3 s4 s5 : Sl) (it : M (List D)) (hit : it (kbE p n s2 s3 s4 s5) = .ok (L.map enc) (kbE p n s2 s3 s4 s5)) : compO it (tgN 6) (pureM true) (callM Mi.law_over_cell (mdM [false, false, false] (consA (getM 0) (consA (getM 1) (consA (getM 6) (pureM [])))))) [6] (kbE p n s2 s3 s4 s5) = .ok ((L.map (cellOv p.h p.w n)).map enc) (kbE p n s2 s3 s4 s5) :=
  comp_map (e := (enc : Cell → D)) (e' := (enc : Cell → D)) L (cellOv p.h p.w n) hit rfl (small_le hl) (fun c hc => ⟨[.d (encP p), .d (enc n), s2, s3, s4, s5, .d (enc c), .no], rfl, rfl, rfl, [.d (encP p), .d (enc n), s2, s3, s4, s5, .d (enc c), .no], by
    have q := law_over_cell_ap (p := p) c n
    generalize encP p = EP at *
    simp [q], rfl, rfl⟩)
theorem stepsL_ok (n : Nm) (L : List Cell) (hl : L.length ≤ 1000) (s2 s4 s5 : Sl) : lb2_b_b_c0 (kbE p n s2 (.d (.lst (L.map enc))) s4 s5) = .ok ((L.map (stepOv n)).map enc) (kbE p n s2 (.d (.lst (L.map enc))) s4 s5) :=
  comp_map (e := (enc : Cell → D)) (e' := (enc : Cell → D)) L (stepOv n) (by unfold kbE; generalize L.map enc = LE; simp) rfl (small_le hl) (fun c hc => ⟨[.d (encP p), .d (enc n), s2, .d (.lst (L.map enc)), s4, s5, .no, .d (enc c)], rfl, rfl, rfl, [.d (encP p), .d (enc n), s2, .d (.lst (L.map enc)), s4, s5, .no, .d (enc c)], by
    have q := law_over_step_ap c n
    generalize L.map enc = LE
    generalize encP p = EP at *
    simp [q], rfl, rfl⟩)
theorem rowL_wp (n : Nm) (L : List Cell) (hl : L.length ≤ 1000) (s2 s4 s5 : Sl) {QF : Flow → DL.Env → Prop} {X : Str → DL.Env → Prop} (h1 : rowSt n L = true → QF .nx (kbE p n s2 (.d (.lst (L.map enc))) s4 s5)) (h2 : rowSt n L = false → QF (.ret (.bl false)) (kbE p n s2 (.d (.lst (L.map enc))) s4 s5)) : Wp lb2_b_b (kbE p n s2 (.d (.lst (L.map enc))) s4 s5) QF X := by
  unfold lb2_b_b
  have c := stepsL_ok (p := p) n L hl s2 s4 s5
  have so := sortG_enc (L.map (stepOv n))
  have ne := neD_lst_enc (srtE (L.map (stepOv n))) L
  have er : rowSt n L = decide (srtE (L.map (stepOv n)) = L) := rfl
  rw [← er] at ne
  unfold kbE at *
  generalize (L.map (stepOv n)).map enc = A at *
  generalize (srtE (L.map (stepOv n))).map enc = B at *
  generalize L.map enc = C at *
  generalize encP p = EP at *
  cases hr : rowSt n L
  · rw [hr] at ne
    simp [Wp_of c, so, ne]
    exact h2 hr
  · rw [hr] at ne
    simp [Wp_of c, so, ne]
    exact h1 hr
def lawBears (p : Parts) (n : Nm) : Bool := !(decide (n.q.val % 2 = 1) && !decide ((p.h : Int) = p.w)) && (decide (cellsOv (yardOf p) n p.holes = p.holes) && ((p.ks.all fun q => rowsSt n q.2) && goalsSt (yardOf p) n))
theorem lawBears_eq (H : PB5 p) (n : Nm) : lawBears p n = bornB (yardOf p) n := by
  unfold lawBears bornB
  have e : (p.ks.all fun q => rowsSt n q.2) = stepsSt (yardOf p) n := by
    unfold stepsSt
    show _ = (ordK p.ks).all _
    rw [Bool.eq_iff_iff, List.all_eq_true, List.all_eq_true]
    have gk : ∀ q ∈ p.ks, getK p.ks q.1 = q.2 := fun q hq => by
      unfold getK
      rw [lookK_mem H.yin.nd hq]; rfl
    constructor
    · intro h q hq
      unfold ordK at hq
      obtain ⟨k, hk, rfl⟩ := List.mem_map.mp hq
      obtain ⟨r, hr, rfl⟩ := List.mem_map.mp (mem_srtE.mp hk)
      have e2 : getK (yardOf p).kinds r.1 = getK p.ks r.1 := by
        unfold getK
        show (lookK (ordK p.ks) r.1).getD _ = _
        rw [lookK_ord H.yin.nd]
      show rowsSt n (getK (yardOf p).kinds r.1) = true
      rw [e2, gk r hr]
      exact h r hr
    · intro h q hq
      have := h (q.1, getK p.ks q.1) (by
        unfold ordK
        exact List.mem_map.mpr ⟨q.1, mem_srtE.mpr (List.mem_map.mpr ⟨q, hq, rfl⟩), rfl⟩)
      have e2 : getK (yardOf p).kinds q.1 = getK p.ks q.1 := by
        unfold getK
        show (lookK (ordK p.ks) q.1).getD _ = _
        rw [lookK_ord H.yin.nd]
      rw [show getK (yardOf p).kinds (q.1, getK p.ks q.1).1 = q.2 from by rw [← gk q hq]; exact e2] at this
      exact this
  rw [e]
  rfl
theorem law_bears_ap (H : PB5 p) (n : Nm) : Mi.law_bears [.d (encP p), .d (enc n)] = .ok (.bl (bornB (yardOf p) n)) [] := by
  rw [← lawBears_eq H]
  have e0 := encP_0 (p := p); have e1 := encP_1 (p := p); have e2 := encP_2 (p := p); have e3 := encP_3 (p := p); have e4 := encP_4 (p := p)
  obtain ⟨zl, l1, l2⟩ := last_13 n
  obtain ⟨zf, f1, f2⟩ := first_x n
  have hY := H.yin
  have hh : p.holes.length ≤ 1000 := by have := H.hl; omega
  have c1 := cellsL_ok (p := p) n p.holes hh .no .no .no .no (itemsGM (op2 ixX (getM 0) (pureM (.int 2)))) (by unfold kbE; generalize p.holes.map enc = LE at *; generalize encP p = EP at *; simp [e2])
  have so := sortG_enc (p.holes.map (cellOv p.h p.w n))
  have ne := neD_lst_enc (srtE (p.holes.map (cellOv p.h p.w n))) p.holes
  have lk : ∀ q ∈ p.ks, ixX (kindsD p.ks) (enc q.1) = some (encK q.2) := fun q hq => ixX_kd _ _ _ (lookK_mem hY.nd hq)
  have ll : ∀ q ∈ p.ks, q.2.leaps.length ≤ 1000 ∧ q.2.rides.length ≤ 1000 := fun q hq => by have := (hY.kk q hq).2; omega
  have ik := items_kdy p.ks
  have gl : ∀ s, (goalsOf (yardOf p) s).length ≤ 1000 := fun s => by
    have h0 := (hY.g p.g0 (.inl rfl)).2.1
    have h1 := (hY.g p.g1 (.inr rfl)).2.1
    unfold goalsOf
    split
    · show p.g0.length ≤ 1000; omega
    · show p.g1.length ≤ 1000; omega
  have gx : ∀ s : Int, (s = 0 ∨ s = 1) → ixX (encG p.g0 p.g1) (.int s) = some (.lst ((goalsOf (yardOf p) s).map enc)) := fun s hs => goals_at (yardOf p) s hs
  have key : Fp (Mi.law_bears [.d (encP p), .d (enc n)]) (fun d os => d = .bl (lawBears p n) ∧ os = []) (fun _ _ => False) := by
    rw [lb_eq, Fp_fnM]
    have no : ∀ {s2 s3 s4 s5 : Sl}, lawBears p n = false → (DL.D.bl false = .bl (lawBears p n) ∧ collect [Sl.d (encP p), .d (enc n)] (kbE p n s2 s3 s4 s5) = []) := fun h => ⟨by rw [h], rfl⟩
    show Wp (seqM lb0 (seqM lb1 (seqM lb2 (seqM lb3 lb4)))) (kbE p n .no .no .no .no) _ _
    rw [Wp_seqM]
    have s0 : ∀ {QF : Flow → DL.Env → Prop} {X : Str → DL.Env → Prop}, ((decide (n.q.val % 2 = 1) && !decide ((p.h : Int) = p.w)) = false → QF .nx (kbE p n .no .no .no .no)) → ((decide (n.q.val % 2 = 1) && !decide ((p.h : Int) = p.w)) = true → QF (.ret (.bl false)) (kbE p n .no .no .no .no)) → Wp lb0 (kbE p n .no .no .no .no) QF X := by
      intro QF X h1 h2
      unfold lb0
      unfold kbE at *
      have nh := neD_int (p.h : Int) (p.w : Int)
      generalize enc n = NE at *
      generalize encP p = EP at *
      generalize decide (n.q.val % 2 = 1) = b1 at *
      generalize decide ((p.h : Int) = p.w) = b2 at *
      cases b1 <;> cases b2 <;> simp [l1, l2, e0, e1, nh] at h1 h2 ⊢ <;> assumption
    refine s0 (fun b1 => ?_) fun b1 => no (by unfold lawBears; rw [b1]; rfl)
    dsimp only
    rw [Wp_seqM]
    have s1 : ∀ {QF : Flow → DL.Env → Prop} {X : Str → DL.Env → Prop}, (decide (cellsOv (yardOf p) n p.holes = p.holes) = true → QF .nx (kbE p n .no .no .no .no)) → (decide (cellsOv (yardOf p) n p.holes = p.holes) = false → QF (.ret (.bl false)) (kbE p n .no .no .no .no)) → Wp lb1 (kbE p n .no .no .no .no) QF X := by
      intro QF X h1 h2
      have ee : decide (cellsOv (yardOf p) n p.holes = p.holes) = decide (srtE (p.holes.map (cellOv p.h p.w n)) = p.holes) := rfl
      rw [← ee] at ne
      generalize decide (cellsOv (yardOf p) n p.holes = p.holes) = b2 at *
      have c1 : lb1_c0 (kbE p n .no .no .no .no) = _ := c1
      unfold lb1
      unfold kbE at *
      generalize (p.holes.map (cellOv p.h p.w n)).map enc = A at *
      generalize (srtE (p.holes.map (cellOv p.h p.w n))).map enc = B at *
      generalize p.holes.map enc = C at *
      generalize enc n = NE at *
      generalize encP p = EP at *
      cases b2 <;> simp [Wp_of c1, so, ne, e2] at h1 h2 ⊢ <;> assumption
    refine s1 (fun b2 => ?_) fun b2 => no (by unfold lawBears; rw [b1, b2]; rfl)
    dsimp only
    rw [Wp_seqM]
    have s2 : ∀ {QF : Flow → DL.Env → Prop} {X : Str → DL.Env → Prop}, ((p.ks.all fun q => rowsSt n q.2) = true → ∀ s2 s3, QF .nx (kbE p n s2 s3 .no .no)) → ((p.ks.all fun q => rowsSt n q.2) = false → ∀ s2 s3, QF (.ret (.bl false)) (kbE p n s2 s3 .no .no)) → Wp lb2 (kbE p n .no .no .no .no) QF X := by
      intro QF X h1 h2
      unfold lb2
      have e3' : itemsGM (op2 ixX (getM 0) (pureM (.int 3))) (kbE p n .no .no .no .no) = .ok (p.ks.map fun q => enc q.1) (kbE p n .no .no .no .no) := by
        unfold kbE
        generalize kindsD p.ks = KD at *
        generalize encP p = EP at *
        simp [e3, ik]
      rw [Wp_forD, Wp_of e3']
      refine Wp_forT (e := fun q : Kd × Kind => enc q.1) (fun pre ρ => (∀ q ∈ pre, rowsSt n q.2 = true) ∧ ∃ s2 s3, ρ = kbE p n s2 s3 .no .no) p.ks ⟨by simp, _, _, rfl⟩ ?_ ?_
      · rintro pre q post _ ea ⟨hp, s2, s3, rfl⟩ N hN
        have hin : q ∈ p.ks := by rw [ea]; simp
        have lk1 := lk q hin
        obtain ⟨l1, l2⟩ := ll q hin
        have fl : rowsSt n q.2 = false → (p.ks.all fun q => rowsSt n q.2) = false := fun h => by
          rw [List.all_eq_false]
          exact ⟨q, hin, by rw [h]; simp⟩
        refine ⟨kbE p n (.d (enc q.1)) s3 .no .no, rfl, ?_⟩
        unfold lb2_b
        have kc := kind_cut q.2
        have hN2 : rowsSt n q.2 = true → ∀ s, N (kbE p n (.d (enc q.1)) s .no .no) := fun h s => by
          refine hN _ ⟨?_, _, _, rfl⟩
          intro z hz
          rcases List.mem_append.mp hz with hz | hz
          · exact hp z hz
          · rw [List.mem_singleton.mp hz]; exact h
        have ix : itemsGM (slM (op2 ixX (op2 ixX (getM 0) (pureM (.int 3))) (getM 2)) (pureM none) (partM (pureM (.int 2)))) (kbE p n (.d (enc q.1)) s3 .no .no) = .ok [.lst (q.2.leaps.map enc), .lst (q.2.rides.map enc)] (kbE p n (.d (enc q.1)) s3 .no .no) := by
          unfold kbE
          generalize kindsD p.ks = KD at *
          generalize encK q.2 = KE at *
          generalize enc q.1 = QE at *
          generalize encP p = EP at *
          simp [e3, lk1, kc]
        rw [Wp_forD, Wp_of ix]
        rw [Wp_forC]
        refine ⟨kbE p n (.d (enc q.1)) (.d (.lst (q.2.leaps.map enc))) .no .no, rfl, rowL_wp n q.2.leaps l1 _ _ _ (fun r1 => ?_) fun r1 => ?_⟩
        · dsimp only
          rw [Wp_forC]
          refine ⟨kbE p n (.d (enc q.1)) (.d (.lst (q.2.rides.map enc))) .no .no, rfl, rowL_wp n q.2.rides l2 _ _ _ (fun r2 => ?_) fun r2 => ?_⟩
          · dsimp only
            rw [Wp_forN]
            exact hN2 (by unfold rowsSt; rw [r1, r2]; rfl) _
          · dsimp only
            exact h2 (fl (by unfold rowsSt; rw [r1, r2]; rfl)) _ _
        · dsimp only
          exact h2 (fl (by unfold rowsSt; rw [r1]; rfl)) _ _
      · rintro _ ⟨h, s2, s3, rfl⟩
        exact h1 (List.all_eq_true.mpr h) _ _
    refine s2 (fun b3 s2 s3 => ?_) fun b3 s2 s3 => no (by unfold lawBears; rw [b1, b2, b3]; rfl)
    dsimp only
    rw [Wp_seqM]
    have step : ∀ (s : Int) (s4 s5 : Sl) (QF : Flow → DL.Env → Prop) (X : Str → DL.Env → Prop), (s = 0 ∨ s = 1) → (∀ s5, (goalSt (yardOf p) n s = true → QF .nx (kbE p n s2 s3 (.d (.int s)) s5)) ∧ (goalSt (yardOf p) n s = false → QF (.ret (.bl false)) (kbE p n s2 s3 (.d (.int s)) s5))) → Wp lb3_b (kbE p n s2 s3 (.d (.int s)) s5) QF X := by
      intro s s4 s5 QF X hs hq
      unfold lb3_b lb3_b_0 lb3_b_1
      have g1 := gx s hs
      have g2 := gx (sideOv n s) (by unfold sideOv; split <;> omega)
      have ct : ixX (.lst [.int s, .int (1 - s)]) (.int (if n.x = true then 1 else 0)) = some (.int (sideOv n s)) := by
        unfold sideOv
        cases n.x <;> rfl
      have it : itemsGM (op2 ixX (op2 ixX (getM 0) (pureM (.int 4))) (getM 4)) (kbE p n s2 s3 (.d (.int s)) (.d (.int (sideOv n s)))) = .ok ((goalsOf (yardOf p) s).map enc) (kbE p n s2 s3 (.d (.int s)) (.d (.int (sideOv n s)))) := by
        unfold kbE
        generalize encG p.g0 p.g1 = EG at *
        generalize (goalsOf (yardOf p) s).map enc = C at *
        generalize encP p = EP at *
        simp [e4, g1]
      have c1 : lb3_b_1_c0 (kbE p n s2 s3 (.d (.int s)) (.d (.int (sideOv n s)))) = _ := cellsL_ok (p := p) n (goalsOf (yardOf p) s) (gl s) s2 s3 (.d (.int s)) (.d (.int (sideOv n s))) _ it
      have so1 := sortG_enc ((goalsOf (yardOf p) s).map (cellOv p.h p.w n))
      have n1 : neD (.lst ((srtE ((goalsOf (yardOf p) s).map (cellOv p.h p.w n))).map enc)) (.lst ((goalsOf (yardOf p) (sideOv n s)).map enc)) = some (.bl (!goalSt (yardOf p) n s)) := neD_lst_enc _ _
      have hq2 := hq (.d (.int (sideOv n s)))
      unfold kbE at *
      generalize goalSt (yardOf p) n s = b at *
      generalize ((goalsOf (yardOf p) s).map (cellOv p.h p.w n)).map enc = A at *
      generalize (srtE ((goalsOf (yardOf p) s).map (cellOv p.h p.w n))).map enc = A2 at *
      generalize (goalsOf (yardOf p) (sideOv n s)).map enc = B at *
      generalize (goalsOf (yardOf p) s).map enc = C at *
      generalize encG p.g0 p.g1 = EG at *
      generalize sideOv n s = so2 at *
      generalize enc n = NE at *
      generalize encP p = EP at *
      have iz : intCD [.bl n.x] = some (.int (if n.x = true then 1 else 0)) := rfl
      generalize hzz : (if n.x = true then (1 : Int) else 0) = zz at *
      cases b <;> simp [f1, f2, iz, ct, Wp_of c1, so1, n1, e4, g2] at hq2 ⊢ <;> exact hq2
    unfold lb3
    have ti : itemsGM (tupM (consM (pureM (.int 0)) (consM (pureM (.int 1)) (pureM [])))) (kbE p n s2 s3 .no .no) = .ok [.int 0, .int 1] (kbE p n s2 s3 .no .no) := by
      unfold kbE
      simp
    rw [Wp_forD, Wp_of ti]
    rw [Wp_forC]
    refine ⟨kbE p n s2 s3 (.d (.int 0)) .no, rfl, step 0 .no _ _ _ (.inl rfl) fun s5 => ⟨fun h0 => ?_, fun h0 => ?_⟩⟩
    · dsimp only
      rw [Wp_forC]
      refine ⟨kbE p n s2 s3 (.d (.int 1)) s5, rfl, step 1 .no _ _ _ (.inr rfl) fun s5 => ⟨fun h1 => ?_, fun h1 => ?_⟩⟩
      · dsimp only
        rw [Wp_forN]
        unfold lb4
        dsimp only
        rw [Wp_retM, Wp_pure]
        exact ⟨by unfold lawBears goalsSt; rw [b1, b2, b3, h0, h1]; rfl, rfl⟩
      · dsimp only
        exact no (by unfold lawBears goalsSt; rw [b1, b2, b3, h0, h1]; rfl)
    · dsimp only
      exact no (by unfold lawBears goalsSt; rw [b1, b2, b3, h0]; rfl)
  obtain ⟨_, _, e, rfl, rfl⟩ := Fp_ok' key
  exact e
end
end DL
end
section
/-! the law's position taken over; an even board -/
namespace DL
open PySem PySem.Spec L2 DLS
open PyProof.Rows hiding St
section
variable {p : Parts}
end
section
variable {S Kk : D} {p : Parts} {b : Int} {X : Str → DL.Env → Prop} {h w : Nat}
def eE (S Kk : D) (p : Parts) (st : OC) (h w : Nat) (s6 s7 s8 : Sl) : DL.Env := [.d S, .d Kk, .d (encP p), .cell st, .d (.int h), .d (.int w), s6, s7, s8, .no, .no, .no]
theorem esizes_at (r : Int) (h0 : 0 ≤ r) (h1 : r < 4) : ∃ h w : Nat, (2 ≤ h ∧ h ≤ 3 ∧ 2 ≤ w ∧ w ≤ 3) ∧ ixX (.lst [.tup [.int 2, .int 2], .tup [.int 3, .int 3], .tup [.int 2, .int 3], .tup [.int 3, .int 3]]) (.int r) = some (.tup [.int h, .int w]) := by
  have : r = 0 ∨ r = 1 ∨ r = 2 ∨ r = 3 := by omega
  rcases this with rfl | rfl | rfl | rfl
  · exact ⟨2, 2, by omega, rfl⟩
  · exact ⟨3, 3, by omega, rfl⟩
  · exact ⟨2, 3, by omega, rfl⟩
  · exact ⟨3, 3, by omega, rfl⟩
theorem e0_ok (st : OC) (hw : w ≤ 5) (s6 s7 s8 : Sl) : le7_t_c0 (eE S Kk p st h w s6 s7 s8) = .ok ((rowL w 0).map enc) (eE S Kk p st h w s6 s7 s8) := by
  have rg := rg1_nat w (by omega)
  exact comp_map (e := fun (i : Nat) => D.int (0 + (i : Int))) (e' := enc) (List.range w) (fun (c : Nat) => ((((0 : Nat) : Int), (c : Int)) : Cell)) (by simp [rg, eE]) rfl (by rw [sizeLine_eq, List.length_range]; omega) (fun c hc => ⟨[.d S, .d Kk, .d (encP p), .cell st, .d (.int h), .d (.int w), s6, s7, s8, .d (.int (0 + (c : Int))), .no, .no], rfl, rfl, rfl, [.d S, .d Kk, .d (encP p), .cell st, .d (.int h), .d (.int w), s6, s7, s8, .d (.int (0 + (c : Int))), .no, .no], by rw [Int.zero_add]; simp; rfl, rfl, rfl⟩)
theorem e1_ok (st : OC) (h1 : 1 ≤ h) (hw : w ≤ 5) (s6 s7 s8 : Sl) : le7_t_c1 (eE S Kk p st h w s6 s7 s8) = .ok ((rowL w (h - 1)).map enc) (eE S Kk p st h w s6 s7 s8) := by
  have rg := rg1_nat w (by omega)
  have sb : subD (.int h) (.int 1) = some (.int ((h - 1 : Nat) : Int)) := by
    have e : (h : Int) - 1 = ((h - 1 : Nat) : Int) := by omega
    show some (D.int ((h : Int) - 1)) = _
    rw [e]
  exact comp_map (e := fun (i : Nat) => D.int (0 + (i : Int))) (e' := enc) (List.range w) (fun (c : Nat) => ((((h - 1 : Nat) : Int), (c : Int)) : Cell)) (by simp [rg, eE]) rfl (by rw [sizeLine_eq, List.length_range]; omega) (fun c hc => ⟨[.d S, .d Kk, .d (encP p), .cell st, .d (.int h), .d (.int w), s6, s7, s8, .d (.int (0 + (c : Int))), .no, .no], rfl, rfl, rfl, [.d S, .d Kk, .d (encP p), .cell st, .d (.int h), .d (.int w), s6, s7, s8, .d (.int (0 + (c : Int))), .no, .no], by rw [Int.zero_add]; generalize ((h - 1 : Nat) : Int) = hh at *; simp [sb]; rfl, rfl, rfl⟩)
def c11 : Cell := (1, 1)
theorem e2_ok (st : OC) (R : List Cell) (hl : R.length ≤ 100) (s6 s7 s8 : Sl) : le11_t_1_c1 [.d S, .d Kk, .d (encP p), .cell st, .d (.int h), .d (.int w), s6, s7, s8, .no, .d (.lst (R.map enc)), .no] = .ok ((notIn [c11] R).map enc) [.d S, .d Kk, .d (encP p), .cell st, .d (.int h), .d (.int w), s6, s7, s8, .no, .d (.lst (R.map enc)), .no] := by
  have c := comp_typed (e := enc) (e' := enc) (it := itemsGM (getM 10)) (tg := tgN 11) (tt := boolM (op2 neD (getM 11) (tupM (consM (pureM (.int 1)) (consM (pureM (.int 1)) (pureM [])))))) (te := getM 11) (vs := [11]) (ρ := [.d S, .d Kk, .d (encP p), .cell st, .d (.int h), .d (.int w), s6, s7, s8, .no, .d (.lst (R.map enc)), .no]) R (fun c => !decide (c ∈ [c11])) (fun x => x) (by generalize R.map enc = RE; simp) rfl (small_le (by omega)) (fun x hx => ⟨[.d S, .d Kk, .d (encP p), .cell st, .d (.int h), .d (.int w), s6, s7, s8, .no, .d (.lst (R.map enc)), .d (enc x)], [.d S, .d Kk, .d (encP p), .cell st, .d (.int h), .d (.int w), s6, s7, s8, .no, .d (.lst (R.map enc)), .d (enc x)], rfl, by
      have nx : neD (enc x) (.tup [.int 1, .int 1]) = some (.bl (!decide (x = c11))) := neD_enc x c11
      have dd : decide (x ∈ [c11]) = decide (x = c11) := by simp
      rw [dd]
      generalize R.map enc = RE
      generalize encP p = EP
      generalize enc x = XE at *
      simp [nx], rfl, rfl, fun _ => ⟨[.d S, .d Kk, .d (encP p), .cell st, .d (.int h), .d (.int w), s6, s7, s8, .no, .d (.lst (R.map enc)), .d (enc x)], rfl, rfl, rfl⟩⟩)
  rwa [List.map_id'] at c
theorem e3_ok (st : OC) (R1 R2 : List Cell) (h1 : R1.length ≤ 100) (h2 : R2.length ≤ 100) (s7 s8 : Sl) : le11_t_1_c0 (eE S Kk p st h w (.d (encG R1 R2)) s7 s8) = .ok [.lst ((notIn [c11] R1).map enc), .lst ((notIn [c11] R2).map enc)] (eE S Kk p st h w (.d (encG R1 R2)) s7 s8) :=
  comp_map (e := fun X : List Cell => D.lst (X.map enc)) (e' := fun X : List Cell => D.lst (X.map enc)) [R1, R2] (notIn [c11]) rfl rfl (small_le (by simp)) (fun X hX => by
    have lx : X.length ≤ 100 := by
      simp only [List.mem_cons, List.not_mem_nil, or_false] at hX
      rcases hX with rfl | rfl
      · exact h1
      · exact h2
    have q := e2_ok (S := S) (Kk := Kk) (p := p) (h := h) (w := w) st X lx (.d (encG R1 R2)) s7 s8
    refine ⟨[.d S, .d Kk, .d (encP p), .cell st, .d (.int h), .d (.int w), .d (encG R1 R2), s7, s8, .no, .d (.lst (X.map enc)), .no], rfl, rfl, rfl, [.d S, .d Kk, .d (encP p), .cell st, .d (.int h), .d (.int w), .d (encG R1 R2), s7, s8, .no, .d (.lst (X.map enc)), .no], ?_, rfl, rfl⟩
    rw [lstM_ap, q])
theorem even_fp (ns : List Int) (k : Nat) (hk : k ≤ 900) {P : D → List OC → Prop} {Y : Str → List OC → Prop} (hP : ∀ p, PB5 p → P (encP p) []) : Fp (Mi.law_even [.d (.lst (ns.map D.int)), .d (.int k)]) P Y := by
  rw [le_eq, Fp_fnM]
  have pf : ∀ {P : D → List OC → Prop} {Y : Str → List OC → Prop}, (∀ p, PB p → P (encP p) []) → Fp (Mi.law_parts [.d (.lst (ns.map D.int)), .d (.int k), .d (.int 8)]) P Y := fun h => parts_fp ns k 8 (by omega) (by omega) (by omega) h
  have bf : ∀ {P : D → List OC → Prop} {Y : Str → List OC → Prop}, (∀ a b, P (.lst [.int a, .int b, .int 0]) []) → Fp (Mi.law_begin [.d (.lst (ns.map D.int)), .d (.int ((k : Int) + 1))]) P Y := fun h => begin_fp ns (k + 1) (by omega) h
  have ad : addD (.int (k : Int)) (.int 1) = some (.int ((k : Int) + 1)) := rfl
  generalize D.lst (ns.map D.int) = S at *
  generalize (k : Int) + 1 = k1 at *
  refine Wp_cut (fun ρ' => ∃ p, PB p ∧ ρ' = [.d S, .d (.int k), .d (encP p), .no, .no, .no, .no, .no, .no, .no, .no, .no]) (fun N hN => ?_) ?_
  · unfold le0
    simp
    exact pf fun p H => hN _ ⟨p, H, rfl⟩
  rintro _ ⟨p, H, rfl⟩
  refine Wp_cut (fun ρ' => ∃ a b, ρ' = [.d S, .d (.int k), .d (encP p), .cell (S3 a b 0), .no, .no, .no, .no, .no, .no, .no, .no]) (fun N hN => ?_) ?_
  · unfold le1
    simp [ad]
    exact bf fun a b => by simp; exact hN _ ⟨a, b, rfl⟩
  rintro _ ⟨a, b, rfl⟩
  rw [Wp_seqM]
  have s2 : ∀ {QF : Flow → DL.Env → Prop} {X : Str → DL.Env → Prop}, (∀ a c, QF .nx [.d S, .d (.int k), .d (encP p), .cell (S3 a b c), .no, .no, .no, .no, .no, .no, .no, .no]) → (∀ a c, QF (.ret (encP p)) [.d S, .d (.int k), .d (encP p), .cell (S3 a b c), .no, .no, .no, .no, .no, .no, .no, .no]) → Wp le2 [.d S, .d (.int k), .d (encP p), .cell (S3 a b 0), .no, .no, .no, .no, .no, .no, .no, .no] QF X := by
    intro QF X h1 h2
    unfold le2
    simp
    refine take_fp (by omega) (by omega) fun r a1 c1 r0 r1 => ?_
    simp
    split
    · exact h2 _ _
    · exact h1 _ _
  refine s2 (fun a c => ?_) fun a c => hP p H.to5
  dsimp only
  refine Wp_cut (fun ρ' => ∃ (a c : Int) (h w : Nat), (2 ≤ h ∧ h ≤ 3 ∧ 2 ≤ w ∧ w ≤ 3) ∧ ρ' = eE S (.int k) p (S3 a b c) h w .no .no .no) (fun N hN => ?_) ?_
  · unfold le3
    simp
    refine take_fp (by omega) (by omega) fun r a1 c1 r0 r1 => ?_
    obtain ⟨h, w, hw, e⟩ := esizes_at r r0 (by omega)
    simp [e, tgU_ap]
    exact hN _ ⟨a1, c1, h, w, hw, rfl⟩
  rintro _ ⟨a, c, h, w, hw0, rfl⟩
  refine Wp_cut (fun ρ' => ∃ (a c : Int) (h w : Nat), (2 ≤ h ∧ h ≤ 5 ∧ 2 ≤ w ∧ w ≤ 5) ∧ ρ' = eE S (.int k) p (S3 a b c) h w .no .no .no) (fun N hN => ?_) ?_
  · unfold le4 eE le4_t le4_t_0 le4_t_1
    simp
    refine take_fp (by omega) (by omega) fun r a1 c1 r0 r1 => ?_
    simp
    split
    · refine take_fp (by omega) (by omega) fun r a1 c1 r0 r1 => ?_
      obtain ⟨i, rfl⟩ := Int.eq_ofNat_of_zero_le r0
      have ad : addD (.int 4) (.int (i : Int)) = some (.int ((4 + i : Nat) : Int)) := rfl
      simp [ad]
      exact hN _ ⟨a1, c1, 4 + i, 4 + i, by omega, rfl⟩
    · exact hN _ ⟨a1, c1, h, w, by omega, rfl⟩
  clear hw0
  rintro _ ⟨a, c, h, w, hw, rfl⟩
  refine Wp_cut (fun ρ' => ρ' = eE S (.int k) p (S3 a b c) h w (.d (encG [] [])) .no .no) (fun N hN => ?_) ?_
  · unfold le5 eE
    simp
    exact hN _ rfl
  rintro _ rfl
  refine Wp_cut (fun ρ' => ∃ (a c i : Int), (0 ≤ i ∧ i < 4) ∧ ρ' = eE S (.int k) p (S3 a b c) h w (.d (encG [] [])) (.d (.int i)) .no) (fun N hN => ?_) ?_
  · unfold le6 eE
    simp
    refine take_fp (by omega) (by omega) fun r a1 c1 r0 r1 => ?_
    exact hN _ ⟨a1, c1, r, ⟨r0, by omega⟩, rfl⟩
  rintro _ ⟨a, c, way, hway, rfl⟩
  have rl : ∀ r, r < h → (rowL w r).Sublist (boardN h w) := fun r hr => row_sub h w r hr
  have one : ∀ x : Cell, x ∈ boardN h w → [x].Sublist (boardN h w) := fun x hx => List.singleton_sublist.mpr hx
  have m0 : ((0, 0) : Cell) ∈ boardN h w := mem_board.mpr ⟨⟨by show (0 : Int) ≤ 0; omega, by show (0 : Int) < h; omega⟩, by show (0 : Int) ≤ 0; omega, by show (0 : Int) < w; omega⟩
  have m1 : (((h : Int) - 1, (w : Int) - 1) : Cell) ∈ boardN h w := mem_board.mpr ⟨⟨by show (0 : Int) ≤ h - 1; omega, by show (h : Int) - 1 < h; omega⟩, by show (0 : Int) ≤ w - 1; omega, by show (w : Int) - 1 < w; omega⟩
  have m2 : (((h / 2 : Nat) : Int), ((w / 2 : Nat) : Int)) ∈ boardN h w := mem_board.mpr ⟨⟨by show (0 : Int) ≤ ((h / 2 : Nat) : Int); omega, by show ((h / 2 : Nat) : Int) < h; omega⟩, by show (0 : Int) ≤ ((w / 2 : Nat) : Int); omega, by show ((w / 2 : Nat) : Int) < w; omega⟩
  have m3 : c11 ∈ boardN h w := mem_board.mpr ⟨⟨by show (0 : Int) ≤ 1; omega, by show (1 : Int) < h; omega⟩, by show (0 : Int) ≤ 1; omega, by show (1 : Int) < w; omega⟩
  refine Wp_cut (fun ρ' => ∃ (g0 g1 : List Cell), (g0.Sublist (boardN h w) ∧ g1.Sublist (boardN h w)) ∧ ρ' = eE S (.int k) p (S3 a b c) h w (.d (encG g0 g1)) (.d (.int way)) .no) (fun N hN => ?_) ?_
  · unfold le7 le7_t
    have q0 := e0_ok (S := S) (Kk := .int k) (p := p) (h := h) (w := w) (S3 a b c) (by omega) (.d (encG [] [])) (.d (.int way)) .no
    have q1 := e1_ok (S := S) (Kk := .int k) (p := p) (h := h) (w := w) (S3 a b c) (by omega) (by omega) (.d (encG [] [])) (.d (.int way)) .no
    have f1 := hN _ ⟨rowL w 0, rowL w (h - 1), ⟨rl 0 (by omega), rl (h - 1) (by omega)⟩, rfl⟩
    have f0 := hN _ ⟨[], [], ⟨by simp, by simp⟩, rfl⟩
    have eg : encG [] [] = .tup [.lst [], .lst []] := rfl
    have eg2 : encG (rowL w 0) (rowL w (h - 1)) = .tup [.lst ((rowL w 0).map enc), .lst ((rowL w (h - 1)).map enc)] := rfl
    rw [eg] at q0 q1 f0 ⊢
    rw [eg2] at f1
    unfold eE at *
    generalize (rowL w 0).map enc = R0 at *
    generalize (rowL w (h - 1)).map enc = R1 at *
    by_cases hi : way = 1
    · rw [hi] at f1 q0 q1 ⊢
      simp [Wp_of q0, Wp_of q1]
      exact f1
    · simp [hi]
      exact f0
  rintro _ ⟨g0, g1, hg, rfl⟩
  refine Wp_cut (fun ρ' => ∃ (g0 g1 : List Cell), (g0.Sublist (boardN h w) ∧ g1.Sublist (boardN h w)) ∧ ρ' = eE S (.int k) p (S3 a b c) h w (.d (encG g0 g1)) (.d (.int way)) .no) (fun N hN => ?_) ?_
  · unfold le8 le8_t
    have f1 := hN _ ⟨[(0, 0)], [((h : Int) - 1, (w : Int) - 1)], ⟨one _ m0, one _ m1⟩, rfl⟩
    have f0 := hN _ ⟨g0, g1, hg, rfl⟩
    have s1 : subD (.int (h : Int)) (.int 1) = some (.int ((h : Int) - 1)) := rfl
    have s2 : subD (.int (w : Int)) (.int 1) = some (.int ((w : Int) - 1)) := rfl
    have ee : encG [(0, 0)] [((h : Int) - 1, (w : Int) - 1)] = .tup [.lst [.tup [.int 0, .int 0]], .lst [.tup [.int ((h : Int) - 1), .int ((w : Int) - 1)]]] := rfl
    rw [ee] at f1
    unfold eE at *
    generalize encG g0 g1 = EG at *
    generalize (h : Int) - 1 = hh at *
    generalize (w : Int) - 1 = ww at *
    by_cases hi : way = 2
    · rw [hi] at f1 ⊢
      simp [s1, s2]
      exact f1
    · simp [hi]
      exact f0
  clear hg
  rintro _ ⟨g0, g1, hg, rfl⟩
  refine Wp_cut (fun ρ' => ∃ (g0 g1 : List Cell), (g0.Sublist (boardN h w) ∧ g1.Sublist (boardN h w)) ∧ ρ' = eE S (.int k) p (S3 a b c) h w (.d (encG g0 g1)) (.d (.int way)) .no) (fun N hN => ?_) ?_
  · unfold le9 le9_t
    have f1 := hN _ ⟨[(((h / 2 : Nat) : Int), ((w / 2 : Nat) : Int))], [(((h / 2 : Nat) : Int), ((w / 2 : Nat) : Int))], ⟨one _ m2, one _ m2⟩, rfl⟩
    have f0 := hN _ ⟨g0, g1, hg, rfl⟩
    have s1 : divD (.int (h : Int)) (.int 2) = some (.int ((h / 2 : Nat) : Int)) := by
      have : h = 2 ∨ h = 3 ∨ h = 4 ∨ h = 5 := by omega
      rcases this with rfl | rfl | rfl | rfl <;> kernel_rfl
    have s2 : divD (.int (w : Int)) (.int 2) = some (.int ((w / 2 : Nat) : Int)) := by
      have : w = 2 ∨ w = 3 ∨ w = 4 ∨ w = 5 := by omega
      rcases this with rfl | rfl | rfl | rfl <;> kernel_rfl
    generalize ((h / 2 : Nat) : Int) = hh at *
    generalize ((w / 2 : Nat) : Int) = ww at *
    have ee : encG [(hh, ww)] [(hh, ww)] = .tup [.lst [.tup [.int hh, .int ww]], .lst [.tup [.int hh, .int ww]]] := rfl
    rw [ee] at f1
    unfold eE at *
    generalize encG g0 g1 = EG at *
    by_cases hi : way = 3
    · rw [hi] at f1 ⊢
      simp [s1, s2]
      exact f1
    · simp [hi]
      exact f0
  clear hg
  rintro _ ⟨g0, g1, hg, rfl⟩
  refine Wp_cut (fun ρ' => ρ' = eE S (.int k) p (S3 a b c) h w (.d (encG g0 g1)) (.d (.int way)) (.d (.lst []))) (fun N hN => ?_) ?_
  · unfold le10 eE
    simp
    exact hN _ rfl
  rintro _ rfl
  have bl := board_le (h := h) (w := w) (by omega) (by omega)
  refine Wp_cut (fun ρ' => ∃ (a c : Int) (H g0 g1 : List Cell), ((H = [] ∨ H = [c11]) ∧ g0.Sublist (notIn H (boardN h w)) ∧ g1.Sublist (notIn H (boardN h w))) ∧ ρ' = eE S (.int k) p (S3 a b c) h w (.d (encG g0 g1)) (.d (.int way)) (.d (.lst (H.map enc)))) (fun N hN => ?_) ?_
  · have nn : notIn [] (boardN h w) = boardN h w := List.filter_eq_self.mpr fun x _ => by simp
    have f0 : ∀ a c, N (eE S (.int k) p (S3 a b c) h w (.d (encG g0 g1)) (.d (.int way)) (.d (.lst []))) := fun a c => hN _ ⟨a, c, [], g0, g1, ⟨.inl rfl, by rw [nn]; exact hg.1, by rw [nn]; exact hg.2⟩, rfl⟩
    have f1 : ∀ a c, N (eE S (.int k) p (S3 a b c) h w (.d (encG (notIn [c11] g0) (notIn [c11] g1))) (.d (.int way)) (.d (.lst [.tup [.int 1, .int 1]]))) := fun a c => hN _ ⟨a, c, [c11], notIn [c11] g0, notIn [c11] g1, ⟨.inr rfl, hg.1.filter _, hg.2.filter _⟩, rfl⟩
    have q3 := fun a c => e3_ok (S := S) (Kk := .int k) (p := p) (h := h) (w := w) (S3 a b c) g0 g1 (by have := hg.1.length_le; omega) (by have := hg.2.length_le; omega) (.d (.int way)) (.d (.lst [.tup [.int 1, .int 1]]))
    unfold le11 le11_t le11_t_0 le11_t_1
    have eg : encG (notIn [c11] g0) (notIn [c11] g1) = .tup [.lst ((notIn [c11] g0).map enc), .lst ((notIn [c11] g1).map enc)] := rfl
    rw [eg] at f1
    unfold eE at *
    generalize (notIn [c11] g0).map enc = A0 at *
    generalize (notIn [c11] g1).map enc = A1 at *
    generalize encG g0 g1 = EG at *
    simp
    refine take_fp (by omega) (by omega) fun r a1 c1 r0 r1 => ?_
    by_cases h1 : r = 1
    · by_cases h2 : way = 3
      · simp [h1, h2]
        rw [h2] at f0
        exact f0 _ _
      · simp [h1, h2, Wp_of (q3 a1 c1)]
        exact f1 _ _
    · simp [h1]
      exact f0 _ _
  rintro _ ⟨a, c, HH, g0, g1, ⟨hH, s0, s1⟩, rfl⟩
  unfold le12 eE
  have e3 := encP_3 (p := p); have e5 := encP_5 (p := p)
  have fin := hP ⟨h, w, HH, p.ks, g0, g1, p.stuck⟩ ⟨by show 1 ≤ h; omega, by show h ≤ 5; omega, by show 2 ≤ w; omega, by show w ≤ 5; omega, Nat.le_trans (by decide : 4 ≤ 2 * 2) (Nat.mul_le_mul hw.1 hw.2.2.1), by
    rcases hH with rfl | rfl
    · simp
    · exact one _ m3, by
    rcases hH with rfl | rfl
    · simp
    · simp, H.ks, s0, s1, H.st⟩
  unfold encP at fin
  dsimp only at fin
  generalize encG g0 g1 = EG at *
  generalize HH.map enc = HE at *
  generalize encP p = EP at *
  simp [e3, e5]
  exact fin
end
end DL
end
section
/-! the name turn0 is borne -/
namespace DL
open PySem PySem.Spec L2 DLS
open PyProof.Rows hiding St
theorem srt_rising {α : Type} [Kl α] {xs : List α} (h : risingB ltE xs = true) : srtE xs = xs := srtE_id ((rising_pwE h).imp fun z => lt_le z)
def n0 : Nm := ⟨false, false, 0⟩
section
variable {p : Parts}
theorem born0 (H : PB5 p) : bornB (yardOf p) n0 = true := by
  have Y := H.yin
  rw [← lawBears_eq H]
  unfold lawBears
  have e1 : cellsOv (yardOf p) n0 p.holes = p.holes := by
    unfold cellsOv
    rw [show p.holes.map (cellOv (yardOf p).h (yardOf p).w n0) = p.holes from by rw [show cellOv (yardOf p).h (yardOf p).w n0 = id from rfl, List.map_id]]
    exact srt_rising Y.rh
  have e2 : (p.ks.all fun q => rowsSt n0 q.2) = true := List.all_eq_true.mpr fun q hq => by
    obtain ⟨S, KI, _⟩ := H.ks
    obtain ⟨b, _, _⟩ := KI.ok q hq
    unfold rowsSt rowSt
    rw [show stepOv n0 = id from rfl, List.map_id, List.map_id, srt_rising b.l.ri, srt_rising b.r.ri]
    simp
  have gs : ∀ g, g = p.g0 ∨ g = p.g1 → cellsOv (yardOf p) n0 g = g := fun g hg => by
    unfold cellsOv
    rw [show g.map (cellOv (yardOf p).h (yardOf p).w n0) = g from by rw [show cellOv (yardOf p).h (yardOf p).w n0 = id from rfl, List.map_id]]
    exact srt_rising (Y.g g hg).1
  have e3 : goalsSt (yardOf p) n0 = true := by
    unfold goalsSt goalSt goalsOf sideOv
    show (decide (cellsOv (yardOf p) n0 p.g0 = p.g0) && decide (cellsOv (yardOf p) n0 p.g1 = p.g1)) = true
    rw [gs _ (.inl rfl), gs _ (.inr rfl)]
    simp
  rw [e1, e2, e3]
  simp [n0]
theorem bears_n0 (H : PB5 p) : ∃ l, bearsL (yardOf p) = n0 :: l := by
  unfold bearsL
  rw [show nms = n0 :: nms.tail from rfl, List.filter_cons, if_pos (born0 H)]
  exact ⟨_, rfl⟩
theorem bears_len (y : Yd) : (bearsL y).length ≤ 16 := List.length_filter_le _ _
end
end DL
end
section
namespace DL
open PySem PySem.Spec L2 DLS
open PyProof.Rows hiding St
def k170 : MS := setM 1 (callM Mi.law_even (mdM [false, false] (consA (getM 0) (consA (pureM (.int 0)) (pureM [])))))
def k171 : MS := setM 2 (callM Mi.law_yard2 (mdM [false] (consA (getM 1) (pureM []))))
def k172_c0 : M (List D) := compO (itemsGM (callM Mi.law_names (mdM [] (pureM [])))) (tgN 6) (boolM (callM Mi.law_bears (mdM [false, false] (consA (getM 1) (consA (getM 6) (pureM [])))))) (getM 6) [6]
def k172 : MS := setOM 3 k172_c0
def k173_b_0 : MS := setXM 5 (callM Mi.bears (mdM [false] (consA (getM 2) (pureM []))))
def k173_b_1 : MS := ifM (orM (notM (lendT (boolM (isiM "list" (getM 5))))) (orM (lendT (boolM (op2 neD (getM 5) (getM 3)))) (boolM (op2 neD (bindM (getO 5) fun _ => opO 5 ixO (pureM (.int 0))) (pureM (.str "turn0")))))) (retM (pureM (.bl false))) skipM
def k173_b_2_c0 : M (List D) := compO (itemsGM (getM 5)) (tgN 6) (pureM true) (isiM "str" (getM 6)) [6]
def k173_b_2 : MS := ifM (notM (lendT (boolM (callD allD (consM (lstM k173_b_2_c0) (pureM [])))))) (retM (pureM (.bl false))) skipM
def k173_b_3 : MS := dropM (mtO 5 appD (consM (pureM (.str "more")) (pureM [])))
def k173_b : MS := seqM k173_b_0 (seqM k173_b_1 (seqM k173_b_2 k173_b_3))
def k173 : MS := forD (rg1M (consM (pureM (.int 2)) (pureM []))) (tgN 4) k173_b
def k174 : MS := retM (op2 eqDT (tupM (consM (fldM "Yard" "height" (getM 2)) (consM (fldM "Yard" "width" (getM 2)) (consM (fldM "Yard" "holes" (getM 2)) (consM (fldM "Yard" "kinds" (getM 2)) (consM (fldM "Yard" "goals" (getM 2)) (consM (fldM "Yard" "stuck" (getM 2)) (pureM [])))))))) (getM 1))
theorem k17_eq : Mi.law = fnM false 7 (seqM k170 (seqM k171 (seqM k172 (seqM k173 k174)))) := rfl
theorem likeB_refl {d : D} (h : okD d = true) : likeB d d = true := by
  have e : eqvD d d = true := SeqAt.eqv_refl _ (layD_of h)
  unfold likeB
  rw [h, e]; rfl
theorem ok_rows {xs : List D} (h : ∀ x ∈ xs, layD x = true ∧ dpD x ≤ 20) : okD (.tup xs) = true :=
  okD_of (by rw [layD_tup, List.all_eq_true]; exact fun x hx => (h x hx).1) (by have := dpD_tup fun x hx => (h x hx).2; omega)
theorem cells_ld (L : List Cell) : layD (.lst (L.map enc)) = true ∧ dpD (.lst (L.map enc)) ≤ 20 := ⟨layD_of (okD_lst L), by have := dpD_lst (dps_enc L); omega⟩
theorem okG17 (g0 g1 : List Cell) : okD (encG g0 g1) = true := ok_rows fun x hx => by
  simp at hx
  rcases hx with rfl | rfl
  · exact cells_ld g0
  · exact cells_ld g1
theorem okK17 (K : Kind) : okD (encK K) = true := ok_rows fun x hx => by
  simp at hx
  rcases hx with rfl | rfl | rfl
  · exact cells_ld K.leaps
  · exact cells_ld K.rides
  · exact ⟨rfl, by show (0 : Nat) ≤ 20; omega⟩
theorem like_kinds {ks : List (Kd × Kind)} (nd : (ks.map (·.1)).Nodup) : likeKB (kindsD (ordK ks)) (kindsD ks) = true := by
  have l1 : (ordK ks).length = ks.length := by
    unfold ordK
    rw [List.length_map, (srtE_perm _).length_eq, List.length_map]
  have a1 := allK_kd (ordK ks)
  have a2 := allK_kd ks
  unfold kindsD likeKB
  simp only [Bool.and_eq_true, beq_iff_eq]
  refine ⟨⟨⟨⟨a1, a2⟩, by simp⟩, by simp [l1]⟩, ?_⟩
  rw [List.all_eq_true]
  rintro ⟨a, b⟩ hab
  rw [List.zip_map'] at hab
  obtain ⟨e, he, hab⟩ := List.mem_map.mp hab
  cases hab
  obtain ⟨k, hk, rfl⟩ := List.mem_map.mp he
  obtain ⟨q, hq, rfl⟩ := List.mem_map.mp (mem_srtE.mp hk)
  have lk := look_some hq
  show (match dicGet (enc q.1) (ks.map fun p => enc p.1) (ks.map fun p => encK p.2) with | some z => likeB (encK (getK ks q.1)) z | none => false) = true
  rw [dicGet_kd, lk]
  exact likeB_refl (okK17 _)
theorem not_ok_dic {xs : List D} {ks vs : List D} (h : D.dic ks vs ∈ xs) : okD (.tup xs) = false := by
  cases e : okD (.tup xs) with
  | false => rfl
  | true =>
    have l := layD_of e
    rw [layD_tup, List.all_eq_true] at l
    have := l _ h
    cases this
theorem same17 {p : Parts} (nd : (p.ks.map (·.1)).Nodup) (st : p.stuck = "lost" ∨ p.stuck = "drawn") : eqDT (.tup [.int p.h, .int p.w, .lst (p.holes.map enc), kindsD (ordK p.ks), encG p.g0 p.g1, .str p.stuck]) (encP p) = some (.bl true) := by
  have n1 : okD (.tup [.int p.h, .int p.w, .lst (p.holes.map enc), kindsD (ordK p.ks), encG p.g0 p.g1, .str p.stuck]) = false := not_ok_dic (ks := (ordK p.ks).map fun p => enc p.1) (vs := (ordK p.ks).map fun p => encK p.2) (by unfold kindsD; simp)
  have e1 : eqD (.tup [.int p.h, .int p.w, .lst (p.holes.map enc), kindsD (ordK p.ks), encG p.g0 p.g1, .str p.stuck]) (encP p) = none := by
    unfold eqD
    rw [n1]; rfl
  have k := like_kinds nd
  have b1 := likeB_refl (d := .int (p.h : Int)) rfl
  have b2 := likeB_refl (d := .int (p.w : Int)) rfl
  have b3 := likeB_refl (okD_lst p.holes)
  have b4 := likeB_refl (okG17 p.g0 p.g1)
  have b5 := likeB_refl (d := .str p.stuck) (by rcases st with e | e <;> rw [e] <;> kernel_rfl)
  unfold eqDT
  rw [e1]
  unfold encP eqT
  generalize likeB = LB at *
  generalize likeKB = LK at *
  simp [b1, b2, b3, b4, b5, k]
def kE17 (S : D) (p : Parts) (s3 s4 s5 : Sl) : DL.Env := [.d S, .d (encP p), .d (encY (yardOf p)), s3, s4, s5, .no]
theorem borne17 {p : Parts} (H : PB5 p) (S : D) : k172_c0 (kE17 S p .no .no .no) = .ok ((bearsL (yardOf p)).map enc) (kE17 S p .no .no .no) := by
  have c := comp_typed (e := (enc : Nm → D)) (e' := (enc : Nm → D)) (it := itemsGM (callM Mi.law_names (mdM [] (pureM [])))) (tg := tgN 6) (tt := boolM (callM Mi.law_bears (mdM [false, false] (consA (getM 1) (consA (getM 6) (pureM [])))))) (te := getM 6) (vs := [6]) (ρ := kE17 S p .no .no .no) nms (bornB (yardOf p)) (fun n => n) (by
    have l := law_names_ap
    generalize nms.map (enc : Nm → D) = A at *
    simp [l]) rfl (small_le (by decide)) (fun n hn => ⟨[.d S, .d (encP p), .d (encY (yardOf p)), .no, .no, .no, .d (enc n)], [.d S, .d (encP p), .d (encY (yardOf p)), .no, .no, .no, .d (enc n)], rfl, by
      have b := law_bears_ap H n
      generalize encP p = EP at *
      generalize encY (yardOf p) = EY at *
      simp [b], rfl, rfl, fun _ => ⟨[.d S, .d (encP p), .d (encY (yardOf p)), .no, .no, .no, .d (enc n)], rfl, rfl, rfl⟩⟩)
  rw [List.map_id'] at c
  exact c
theorem strs17 {p : Parts} (S : D) (L : List Nm) (hL : L.length ≤ 100) (s3 s4 : Sl) : k173_b_2_c0 (kE17 S p s3 s4 (.d (.lst (L.map enc)))) = .ok ((L.map fun _ => true).map D.bl) (kE17 S p s3 s4 (.d (.lst (L.map enc)))) :=
  comp_map (e := (enc : Nm → D)) (e' := D.bl) L (fun _ => true) (by
    have ig : itemsG (.lst (L.map enc)) = some (L.map enc) := rfl
    unfold kE17
    generalize encP p = EP at *
    generalize encY (yardOf p) = EY at *
    generalize L.map (enc : Nm → D) = LE at *
    simp [ig]) rfl (small_le (by omega)) (fun n hn => by
    have ty : isTy "str" (enc n) = some true := rfl
    refine ⟨(kE17 S p s3 s4 (.d (.lst (L.map enc)))).set 6 (.d (enc n)), rfl, rfl, rfl, (kE17 S p s3 s4 (.d (.lst (L.map enc)))).set 6 (.d (enc n)), ?_, rfl, rfl⟩
    unfold kE17
    generalize encP p = EP at *
    generalize encY (yardOf p) = EY at *
    generalize L.map (enc : Nm → D) = LE at *
    generalize enc n = NE at *
    simp [ty])
theorem law_math (ns : List Int) (hl : ns.length ≤ 63) : Mi.law [.d (.lst (ns.map D.int))] = .ok (.bl true) [] := by
  have key : Fp (Mi.law [.d (.lst (ns.map D.int))]) (fun d os => d = .bl true ∧ os = []) (fun _ _ => False) := by
    rw [k17_eq, Fp_fnM]
    have ef : ∀ {P : D → List OC → Prop} {Y : Str → List OC → Prop}, (∀ p, PB5 p → P (encP p) []) → Fp (Mi.law_even [.d (.lst (ns.map D.int)), .d (.int 0)]) P Y := fun h => even_fp ns 0 (by omega) h
    generalize D.lst (ns.map D.int) = S at *
    refine Wp_cut (fun ρ' => ∃ p, PB5 p ∧ ρ' = [.d S, .d (encP p), .no, .no, .no, .no, .no]) (fun N hN => ?_) ?_
    · unfold k170
      simp
      exact ef fun p H => hN _ ⟨p, H, rfl⟩
    rintro _ ⟨p, H, rfl⟩
    refine Wp_cut (fun ρ' => ρ' = kE17 S p .no .no .no) (fun N hN => ?_) ?_
    · have yd := yard2_ap5 H
      have fin := hN _ rfl
      unfold kE17 at fin
      unfold k171
      generalize encP p = EP at *
      generalize encY (yardOf p) = EY at *
      simp [yd]
      exact fin
    rintro _ rfl
    have hy : YGood (yardOf p) := H.good
    have bap := bears_ap hy
    have bl := bears_len (yardOf p)
    obtain ⟨l0, e0⟩ := bears_n0 H
    have bc := borne17 H S
    generalize hB : bearsL (yardOf p) = B at *
    refine Wp_cut (fun ρ' => ρ' = kE17 S p (.own (B.map enc)) .no .no) (fun N hN => by
      have hN := hN _ rfl
      unfold k172
      rw [Wp_setOM, Wp_of bc]
      exact ⟨rfl, hN⟩) ?_
    rintro _ rfl
    refine Wp_cut (fun ρ' => ∃ s3 s4 s5, (s3 = .own (B.map enc) ∨ s3 = .d (.lst (B.map enc))) ∧ ρ' = kE17 S p s3 s4 s5) (fun N hN => ?_) ?_
    · have r1 : Wp (rg1M (consM (pureM (.int 2)) (pureM []))) (kE17 S p (.own (B.map enc)) .no .no) = fun QL X => QL ([0, 1].map D.int) (kE17 S p (.own (B.map enc)) .no .no) := by
        funext QL X
        have : rg1 [.int 2] = some [.int 0, .int 1] := by kernel_rfl
        simp [this]
      unfold k173
      rw [Wp_forD, r1]
      refine Wp_forT (fun pre ρ => ∃ s4 s5, ρ = kE17 S p (.own (B.map enc)) s4 s5) [0, 1] ⟨_, _, rfl⟩ ?_ ?_
      · rintro pre i post _ ea ⟨s4, s5, rfl⟩ N2 hN2
        refine ⟨kE17 S p (.own (B.map enc)) (.d (.int i)) s5, rfl, ?_⟩
        have oc : ocD (.l (B.map (enc : Nm → D))) = .lst (B.map enc) := rfl
        unfold k173_b
        refine Wp_cut (fun ρ' => ρ' = kE17 S p (.own (B.map enc)) (.d (.int i)) (.own (B.map enc))) (fun M hM => by
          have hM := hM _ rfl
          have co : conOf (.lst (B.map enc)) = some (.l (B.map enc)) := rfl
          unfold k173_b_0
          unfold kE17 at *
          generalize encP p = EP at *
          generalize encY (yardOf p) = EY at *
          generalize B.map (enc : Nm → D) = BE at *
          simp [bap, co]
          exact hM) ?_
        rintro _ rfl
        refine Wp_cut (fun ρ' => ρ' = kE17 S p (.own (B.map enc)) (.d (.int i)) (.own (B.map enc))) (fun M hM => by
          have hM := hM _ rfl
          have ty : isTy "list" (.lst (B.map (enc : Nm → D))) = some true := rfl
          have ne : neD (.lst (B.map (enc : Nm → D))) (.lst (B.map enc)) = some (.bl false) := by rw [neD_lst_enc]; simp
          have x0 : ixO (B.map (enc : Nm → D)) (.int 0) = some (.str "turn0") := by
            have z : ∀ (a : D) (l : List D), ixO (a :: l) (.int 0) = some a := fun a l => by show atI (a :: l) ((0 : Nat) : Int) = some a; rw [atI_nat]; rfl
            have z2 : (enc n0 : D) = .str "turn0" := by kernel_rfl
            rw [e0, List.map_cons, z, z2]
          have nt : neD (.str "turn0") (.str "turn0") = some (.bl false) := by kernel_rfl
          unfold k173_b_1
          unfold kE17 at *
          generalize encP p = EP at *
          generalize encY (yardOf p) = EY at *
          generalize B.map (enc : Nm → D) = BE at *
          simp [ty, oc, ne, x0, nt]
          exact hM) ?_
        rintro _ rfl
        refine Wp_cut (fun ρ' => ρ' = kE17 S p (.own (B.map enc)) (.d (.int i)) (.own (B.map enc))) (fun M hM => by
          have hM := hM _ rfl
          have td := strs17 (p := p) S B (by omega) (.d (.lst (B.map enc))) (.d (.int i))
          have al : allD [.lst ((B.map fun _ => true).map D.bl)] = some (.bl true) := by rw [allD_bls, all_id]; simp
          have t3 : Wp (lendT (boolM (callD allD (consM (lstM k173_b_2_c0) (pureM []))))) (kE17 S p (.own (B.map enc)) (.d (.int i)) (.own (B.map enc))) = fun QB X => QB true (kE17 S p (.own (B.map enc)) (.d (.int i)) (.own (B.map enc))) := by
            funext QB X
            have ed : dataE (kE17 S p (.own (B.map enc)) (.d (.int i)) (.own (B.map enc))) = kE17 S p (.d (.lst (B.map enc))) (.d (.int i)) (.d (.lst (B.map enc))) := rfl
            rw [Wp_lendT, ed]
            simp only [Wp_boolM, Wp_callD, Wp_consM, Wp_lstM, Wp_of td, Wp_pure]
            rw [al]
            simp
          unfold k173_b_2
          rw [Wp_ifM, Wp_notM, t3]
          simp
          exact hM) ?_
        rintro _ rfl
        have hN2 := hN2 (kE17 S p (.own (B.map enc)) (.d (.int i)) (.own (B.map enc ++ [.str "more"]))) ⟨_, _, rfl⟩
        have ap : appD (B.map enc) [.str "more"] = some (.non, B.map enc ++ [.str "more"]) := by
          show (if (B.map (enc : Nm → D)).length < sizeLine then some (D.non, B.map enc ++ [.str "more"]) else none) = _
          rw [if_pos]
          rw [List.length_map, sizeLine_eq]; omega
        unfold k173_b_3
        unfold kE17 at *
        generalize encP p = EP at *
        generalize encY (yardOf p) = EY at *
        generalize B.map (enc : Nm → D) = BE at *
        simp [ap]
        exact hN2
      · rintro _ ⟨s4, s5, rfl⟩
        exact ⟨rfl, hN _ ⟨_, s4, s5, .inl rfl, rfl⟩⟩
    rintro _ ⟨s3, s4, s5, _, rfl⟩
    have Y := H.yin
    have sm := same17 Y.nd H.st
    have f1 := getF_ki (yardOf p)
    have f2 := getF_go (yardOf p)
    have co : collect [.d S] (kE17 S p s3 s4 s5) = [] := rfl
    have eY : kindsD (ordK p.ks) = kindsD (yardOf p).kinds := rfl
    have eG : encG p.g0 p.g1 = .tup [.lst ((yardOf p).g0.map enc), .lst ((yardOf p).g1.map enc)] := rfl
    have eh : (p.h : Int) = (yardOf p).h := rfl
    have ew : (p.w : Int) = (yardOf p).w := rfl
    have eo : p.holes = (yardOf p).holes := rfl
    have es : p.stuck = (yardOf p).stuck := rfl
    have g1 := getF_h (yardOf p)
    have g2 := getF_w (yardOf p)
    have g3 := getF_ho (yardOf p)
    have g4 := getF_st (yardOf p)
    unfold k174 kE17 at *
    rw [eY, eG, eh, ew, eo, es] at sm
    generalize encP p = EP at *
    generalize encY (yardOf p) = EY at *
    generalize kindsD (yardOf p).kinds = KD at *
    simp [f1, f2, g1, g2, g3, g4, sm, sizeLine_eq]
  obtain ⟨_, _, e, rfl, rfl⟩ := Fp_ok' key
  exact e
end DL
end
namespace DL
open PySem PySem.Spec L2
open PyProof.Rows hiding St
end DL
open PySem PySem.W PySem.Calls PyProof.Rows
theorem PySem.Challenge.cw_pieceyard_k17_names_borne_holds : PySem.Challenge.rw_pieceyard_k17_names_borne.Holds := by
  w_on; o_law
  refine HandSHeadRun.head_any (r := OpenLaw.row PySem.Challenge.rw_pieceyard_k17_names_borne) (q := view (OpenLaw.row PySem.Challenge.rw_pieceyard_k17_names_borne).prog [39]) (H := DL.hkk) (ob := DL.obb) (M := 8000) (loose := DL.loose) (d := HandSHeadRun.topDef (OpenLaw.row PySem.Challenge.rw_pieceyard_k17_names_borne).prog 39) (kwd := []) DL.obb_eq
    (by kernel_rfl) (fun s => by kernel_rfl) DL.run (by kernel_rfl) (by kernel_rfl) (by kernel_rfl) (by rfl) (by first | assumption | decide +kernel) (by decide +kernel) ⟨rfl, rfl, rfl, rfl, rfl, by decide +kernel⟩ ?hw ?hc
  case hw => w_witness2
  case hc =>
    refine DL.walk_ofX (l := PySem.Challenge.rw_pieceyard_k17_names_borne) (n := 63) (k := 7) (x := "script") (CX := fun w => L2.CX (PySem.Challenge.rw_pieceyard_k17_names_borne).prog w) rfl (by decide) (by kernel_rfl) ⟨rfl, by decide, by decide⟩ ?F (fun _ _ _ _ _ z => DL.cx_none z)
    intro w mg fa h Y G hmg0
    obtain ⟨K, KX, c, xt⟩ := Y
    have hmg : mg ("law" : PySem.Str) = some (.ref fa) := by
      have e : (HandSHeadRun.topDef (OpenLaw.row PySem.Challenge.rw_pieceyard_k17_names_borne).prog 39).name = ("law" : PySem.Str) := by kernel_rfl
      rw [← e]
      exact hmg0
    obtain ⟨fd, D, hs, hF⟩ := DL.law_ok (P := (PySem.Challenge.rw_pieceyard_k17_names_borne).prog) (w := w) KX G c xt
    have ea : fa = He.ga K "law" := by
      have z := D.1
      rw [hmg] at z
      exact PySem.Value.ref.inj (Option.some.inj z)
    subst ea
    exact ⟨K, fd, DL.spD ⟨K, mg, w⟩ none [false] .f DL.Mi.law, KX, fun s v => (D.2.bindsA (ps := ["script"]) DL.bi_law s [v] rfl), fun H a ns hl hO hS => DL.law_sp hs hO hS (DL.law_math ns hl), fun base _ _ => hF base⟩
