import PyProof.Rows.All
import HandS.TupSets
import KE.KeyNested
import KE.KDictKeyed
import Wide.All
import OpenK.AllK
import Wide.FinOn
import PyProof.EqAt
import PyProof.EqKinds
import PyProof.TupleCall
import HandS.ForMost
import HandS.Exc
import HandS.TryOnly
import HandS.ExcOwn
import HandS.Defaults
import HandS.Head0
import HandS.Head1
import HandS.Head2
import HandS.HeadEnd
import HandS.HeadHook1
import HandS.HeadHook2
import HandS.IsInst
import HandS.TupAny
import HandS.HotCalls
import HandS.ExcIs
import HandS.More
import KE.DataCmp
import HandS.Deep
import KE.SortCalls
import HandS.Iter
import HandS.Style
import HandS.Small
import KE.DataMinMax
import HandS.Conv
import KE.KIntText
import KE.KDictSum
import KE.KDictCopyH
import KE.KDictDisplayH
import HandS.Text
import HandS.StrMore
import HandS.Replace
import PyProof.StrCalls6
import PyProof.MeetsStr3
import PyProof.StrBlock2
import HandS.SortKw
import HandS.Comp
import HandS.ExcCtx
import HandS.SuiteRaise
import HandS.List
import HandS.Zip
import HandS.Walk
import PyProof.StrLawsChain
import PyProof.StrLawsIn
import PyProof.StrLawsFrom
import PySem.Challenge.RW_pieceyard_k71_trees_written
set_option Elab.async false
set_option linter.all false
set_option maxRecDepth 100000
set_option maxHeartbeats 0
section
/-! the data layer: values as pure data, a def as a plain function of data -/
namespace DL
open PySem PySem.Spec L2
open PyProof.Rows hiding St

/-- pure data -/
inductive D where
  | non | bl (b : Bool) | int (i : Int) | str (s : Str)
  | lst (xs : List D) | tup (xs : List D)
  | dic (ks vs : List D) | ins (c : Str) (ns : List Str) (fs : List D)
  deriving Inhabited

/-- a slot: empty, data, a list that the def owns, the handled exception -/
inductive OC where
  | l (xs : List D) | k (ks vs : List D)
  deriving Inhabited
inductive Sl where
  | no | d (x : D) | cell (c : OC) | exn (c : Str)
  deriving Inhabited
/-- .. the def's own list, dict -/
abbrev Sl.own (xs : List D) : Sl := .cell (.l xs)
abbrev Env := List Sl
inductive Res (α : Type) where
  | ok (a : α) (ρ : Env) | exc (c : Str) (ρ : Env) | stuck
abbrev M (α : Type) := Env → Res α
inductive Flow where
  | nx | ret (d : D) | brk | ct
abbrev MS := M Flow

/-- what never changes -/
def Fixed : HO → Prop
  | .tup _ => True
  | .frz _ _ => True
  | .ins _ _ _ => True
  | _ => False
def Stable (H H' : Hp) : Prop := ∀ a o, H a = some o → Fixed o → H' a = some o
theorem Stable.rfl {H : Hp} : Stable H H := fun _ _ h _ => h
theorem Stable.trans {H1 H2 H3 : Hp} (a : Stable H1 H2) (b : Stable H2 H3) : Stable H1 H3 := fun x o h f => b x o (a x o h f) f
def Grow (H H' : Hp) : Prop := ∀ a o, H a = some o → H' a = some o
theorem Grow.rfl {H : Hp} : Grow H H := fun _ _ h => h
theorem Grow.stable {H H' : Hp} (g : Grow H H') : Stable H H' := fun a o h _ => g a o h
theorem Grow.trans {H1 H2 H3 : Hp} (a : Grow H1 H2) (b : Grow H2 H3) : Grow H1 H3 := fun x o h => b x o (a x o h)
theorem Grow.new {H : Hp} {p : Addr} {o : HO} (hp : H p = none) : Grow H (upd H p o) := fun a u h => by
  rw [upd_ne (ne_of_none h hp)]; exact h

/-- the module: the written part, the names -/
structure Md where
  K : PySem.W.Frag
  mg : Str → Option Value
  w : World
/-- the ghost context: the module, the heap at the entry, the by-reference parameters -/
structure Gh where
  m : Md
  H0 : Hp
  pr : List (Nat × Addr)
  ex : Option (Addr × Str) := none

def SqF (K : PySem.W.Frag) (H : Hp) (a : Addr) (xs : List V) : Prop :=
  (∃ o, H a = some (.frz o (.lst xs))) ∨ ∃ (its : Array Value) (n : Nat), K.lookup a = some { cls := .type "list", data := .seq its n } ∧ its.size ≤ sizeLine ∧ Vals xs its.toList
theorem SqF.sq {K : PySem.W.Frag} {H : Hp} {a : Addr} {xs : List V} (h : SqF K H a xs) : SqL K H a xs := by
  rcases h with ⟨o, h⟩ | ⟨its, n, h1, h2, h3⟩
  · exact .inl (.inr ⟨o, h⟩)
  · exact .inr ⟨_, its, n, h1, rfl, rfl, rfl, h2, h3⟩
theorem SqF.st {K : PySem.W.Frag} {H H' : Hp} {a : Addr} {xs : List V} (s : Stable H H') (h : SqF K H a xs) : SqF K H' a xs := by
  rcases h with ⟨o, h⟩ | h
  · exact .inl ⟨o, s _ _ h trivial⟩
  · exact .inr h
theorem SqT_st {K : PySem.W.Frag} {H H' : Hp} {a : Addr} {xs : List V} (s : Stable H H') (h : SqT K H a xs) : SqT K H' a xs := by
  rcases h with (h | ⟨o, h⟩) | h
  · exact .inl (.inl (s _ _ h trivial))
  · exact .inl (.inr ⟨o, s _ _ h trivial⟩)
  · exact .inr h
/-- a dict with nested keys, at a: keys, where they stand, values -/
abbrev NEnt := NestedKey × Addr × V
def entN (w : World) (k : NestedKey) (a : Addr) (v : Value) : DictEntry := { hash := NestedKey.hash w k, key := .ref a, val := v }
def NdH (w : World) (a : Addr) (kvs : List NEnt) (h : Heap) : Prop := kvs.length ≤ sizeLine ∧ (a == sysModules) = false ∧ ∃ us : List Value, Vals (kvs.map (·.2.2)) us ∧ ∃ o es ep, h.get? a = some o ∧ o.ExactDict ∧ o.data = .dict es ep ∧ es.toList = (kvs.zip us).map (fun p => entN w p.1.1 p.1.2.1 p.2) ∧ (kvs.map (·.1)).Nodup
def NdO (w : World) (a : Addr) (kvs : List NEnt) : HO := .ext (NdH w a kvs)
mutual
def nkD : NestedKey → D
  | .none => .non
  | .num i => .int i
  | .text x => .str x
  | .tup ks => .tup (nkDs ks)
def nkDs : List NestedKey → List D
  | [] => []
  | k :: ks => nkD k :: nkDs ks
end
/-- a flat key -/
def isK : D → Bool
  | .int _ => true
  | .str _ => true
  | _ => false
def keyD : Key → D
  | .inl i => .int i
  | .inr x => .str x

mutual
inductive Rep (m : Md) (H : Hp) : V → D → Prop
  | non : Rep m H .non .non
  | bl (b : Bool) : Rep m H (.bl b) (.bl b)
  | int (i : Int) : Rep m H (.int i) (.int i)
  | str (x : Str) : Rep m H (.str x) (.str x)
  | lst {a : Addr} {vs : List V} {ds : List D} : SqF m.K H a vs → RepL m H vs ds → Rep m H (.ref a) (.lst ds)
  | tup {a : Addr} {vs : List V} {ds : List D} : SqT m.K H a vs → RepL m H vs ds → Rep m H (.ref a) (.tup ds)
  | ins {a C dx : Addr} {c : Str} {ns : List Str} {vs : List V} {ds : List D} : m.mg c = some (.ref C) → H a = some (.ins C dx (ns.zip vs)) → ns.length = vs.length → RepL m H vs ds → Rep m H (.ref a) (.ins c ns ds)
  | dicK {a : Addr} {o : Obj} {kvs : List (Key × V)} {ds : List D} : H a = some (.frz o (.dK kvs)) → RepL m H (kvs.map (·.2)) ds → Rep m H (.ref a) (.dic (kvs.map fun p => keyD p.1) ds)
  | dicN {a : Addr} {o : Obj} {kvs : List NEnt} {ks ds : List D} : H a = some (.frz o (NdO m.w a kvs)) → kvs ≠ [] → ks = kvs.map (fun p => nkD p.1) → RepL m H (kvs.map fun p => .ref p.2.1) ks → RepL m H (kvs.map (·.2.2)) ds → Rep m H (.ref a) (.dic ks ds)
inductive RepL (m : Md) (H : Hp) : List V → List D → Prop
  | nil : RepL m H [] []
  | cons {v : V} {vs : List V} {d : D} {ds : List D} : Rep m H v d → RepL m H vs ds → RepL m H (v :: vs) (d :: ds)
end
section
variable {m : Md} {H H' : Hp}
mutual
theorem Rep.st (s : Stable H H') : ∀ {d : D} {v : V}, Rep m H v d → Rep m H' v d
  | .non, _, h => by cases h; exact .non
  | .bl b, _, h => by cases h; exact .bl b
  | .int i, _, h => by cases h; exact .int i
  | .str x, _, h => by cases h; exact .str x
  | .lst ds, _, h => by
    cases h with
    | lst q r => exact .lst (q.st s) (RepL.st s r)
  | .tup ds, _, h => by
    cases h with
    | tup q r => exact .tup (SqT_st s q) (RepL.st s r)
  | .ins c ns ds, _, h => by
    cases h with
    | ins m' q e r => exact .ins m' (s _ _ q trivial) e (RepL.st s r)
  | .dic ks ds, _, h => by
    cases h with
    | dicK q r => exact .dicK (s _ _ q trivial) (RepL.st s r)
    | dicN q n e r1 r2 => exact .dicN (s _ _ q trivial) n e (RepL.st s r1) (RepL.st s r2)
theorem RepL.st (s : Stable H H') : ∀ {ds : List D} {vs : List V}, RepL m H vs ds → RepL m H' vs ds
  | [], _, h => by cases h; exact .nil
  | d :: ds, _, h => by
    cases h with
    | cons a b => exact .cons (Rep.st s a) (RepL.st s b)
end
theorem RepL.len : ∀ {vs : List V} {ds : List D}, RepL m H vs ds → vs.length = ds.length
  | _, [], h => by cases h; rfl
  | _, d :: ds, h => by
    cases h with
    | cons a b => simp [RepL.len b]
theorem RepL.get : ∀ {vs : List V} {ds : List D} {i : Nat} {d : D}, RepL m H vs ds → ds[i]? = some d → ∃ v, vs[i]? = some v ∧ Rep m H v d
  | _, [], i, d, h, e => by simp at e
  | _, x :: ds, 0, d, h, e => by
    cases h with
    | cons a b => simp at e; subst e; exact ⟨_, rfl, a⟩
  | _, x :: ds, i + 1, d, h, e => by
    cases h with
    | cons a b =>
      obtain ⟨v, h1, h2⟩ := RepL.get (i := i) (d := d) b (by simpa using e)
      exact ⟨v, by simpa using h1, h2⟩
theorem RepL.getV : ∀ {vs : List V} {ds : List D} {i : Nat} {v : V}, RepL m H vs ds → vs[i]? = some v → ∃ d, ds[i]? = some d ∧ Rep m H v d
  | _, [], i, v, h, e => by cases h; simp at e
  | _, x :: ds, 0, v, h, e => by
    cases h with
    | cons a b => simp at e; subst e; exact ⟨_, rfl, a⟩
  | _, x :: ds, i + 1, v, h, e => by
    cases h with
    | cons a b =>
      obtain ⟨d, h1, h2⟩ := RepL.getV (i := i) (v := v) b (by simpa using e)
      exact ⟨d, by simpa using h1, h2⟩
theorem RepL.append : ∀ {vs ws : List V} {ds es : List D}, RepL m H vs ds → RepL m H ws es → RepL m H (vs ++ ws) (ds ++ es)
  | _, _, [], _, h, k => by cases h; exact k
  | _, _, x :: ds, _, h, k => by
    cases h with
    | cons a b => exact .cons a (RepL.append b k)
theorem RepL.set {v : V} {d : D} (r : Rep m H v d) : ∀ {vs : List V} {ds : List D} (i : Nat), RepL m H vs ds → RepL m H (vs.set i v) (ds.set i d)
  | _, [], i, h => by cases h; exact .nil
  | _, x :: ds, 0, h => by
    cases h with
    | cons a b => exact .cons r b
  | _, x :: ds, i + 1, h => by
    cases h with
    | cons a b => exact .cons a (RepL.set r i b)
theorem RepL.take : ∀ {vs : List V} {ds : List D} (n : Nat), RepL m H vs ds → RepL m H (vs.take n) (ds.take n)
  | _, _, 0, h => by simp; exact .nil
  | _, [], n + 1, h => by cases h; exact .nil
  | _, x :: ds, n + 1, h => by
    cases h with
    | cons a b => exact .cons a (RepL.take n b)
theorem RepL.drop : ∀ {vs : List V} {ds : List D} (n : Nat), RepL m H vs ds → RepL m H (vs.drop n) (ds.drop n)
  | _, _, 0, h => by simpa using h
  | _, [], n + 1, h => by cases h; exact .nil
  | _, x :: ds, n + 1, h => by
    cases h with
    | cons a b => simpa using RepL.drop n b
theorem RepL.reverse : ∀ {vs : List V} {ds : List D}, RepL m H vs ds → RepL m H vs.reverse ds.reverse
  | _, [], h => by cases h; exact .nil
  | _, x :: ds, h => by
    cases h with
    | cons a b => simp only [List.reverse_cons]; exact RepL.append (RepL.reverse b) (.cons a .nil)
end

/-- keys of a nested dict are no flat ones -/
theorem notK {m : Md} {H : Hp} {kvs : List NEnt} {ks : List D} (r : RepL m H (kvs.map fun p => V.ref p.2.1) ks) (n : kvs ≠ []) (h : ks.all isK = true) : False := by
  cases kvs with
  | nil => exact n rfl
  | cons p l =>
    cases r with
    | cons a b =>
      rw [List.all_cons, Bool.and_eq_true] at h
      cases a <;> simp [isK] at h
/-- the object o at a holds c -/
def RepO (m : Md) (H : Hp) (a : Addr) (o : HO) : OC → Prop
  | .l xs => ∃ vs, o = .lst vs ∧ RepL m H vs xs
  | .k ks ds => (∃ kvs : List (Key × V), o = .dK kvs ∧ ks = kvs.map (fun p => keyD p.1) ∧ RepL m H (kvs.map (·.2)) ds) ∨
    ∃ kvs : List NEnt, o = NdO m.w a kvs ∧ kvs ≠ [] ∧ ks = kvs.map (fun p => nkD p.1) ∧ RepL m H (kvs.map fun p => .ref p.2.1) ks ∧ RepL m H (kvs.map (·.2.2)) ds
theorem RepO.st {m : Md} {H H' : Hp} {a : Addr} {o : HO} (s : Stable H H') : ∀ {c : OC}, RepO m H a o c → RepO m H' a o c
  | .l _, ⟨vs, e, r⟩ => ⟨vs, e, r.st s⟩
  | .k _ _, .inl ⟨kvs, e, e2, r⟩ => .inl ⟨kvs, e, e2, r.st s⟩
  | .k _ _, .inr ⟨kvs, e, n, e2, r1, r2⟩ => .inr ⟨kvs, e, n, e2, r1.st s, r2.st s⟩
theorem RepO.nf {m : Md} {H : Hp} {a : Addr} {o : HO} : ∀ {c : OC}, RepO m H a o c → ¬ Fixed o
  | .l _, ⟨vs, e, r⟩ => by subst e; exact id
  | .k _ _, .inl ⟨kvs, e, _⟩ => by subst e; exact id
  | .k _ _, .inr ⟨kvs, e, _⟩ => by subst e; exact id
theorem RepO.mt {m : Md} {H : Hp} {a : Addr} {o : HO} : ∀ {c : OC}, RepO m H a o c → Mut (some o)
  | .l _, ⟨vs, e, r⟩ => by subst e; trivial
  | .k _ _, .inl ⟨kvs, e, _⟩ => by subst e; trivial
  | .k _ _, .inr ⟨kvs, e, _⟩ => by subst e; trivial
/-! ### the state against the slots -/
structure StOk (G : Gh) (σ : St) (H : Hp) (ρ : Env) : Prop where
  len : σ.length = ρ.length
  dat : ∀ (i : Nat) (x : D), ρ[i]? = some (.d x) → ∃ v, σ[i]? = some (some v) ∧ Rep G.m H v x
  own : ∀ (i : Nat) (xs : OC), ρ[i]? = some (.cell xs) → ∃ a vs, σ[i]? = some (some (.ref a)) ∧ H a = some vs ∧ RepO G.m H a vs xs ∧ ((∀ p ∈ G.pr, p.1 ≠ i) → G.H0 a = none ∧ ∀ p ∈ G.pr, p.2 ≠ a)
  sep : ∀ (i j : Nat) (xs ys : OC) (a : Addr), i ≠ j → ρ[i]? = some (.cell xs) → ρ[j]? = some (.cell ys) → σ[i]? = some (some (.ref a)) → σ[j]? ≠ some (some (.ref a))
  prot : ∀ p ∈ G.pr, σ[p.1]? = some (some (.ref p.2)) ∧ ∃ xs, ρ[p.1]? = some (.cell xs)
  keep : ∀ a o, G.H0 a = some o → (∀ p ∈ G.pr, p.2 ≠ a) → H a = some o
  exn : ∀ (i : Nat) (c : Str), ρ[i]? = some (.exn c) → ∃ a, G.ex = some (a, c) ∧ σ[i]? = some (some (.ref a))
/-- a is no own list's place -/
def Fresh (G : Gh) (σ : St) (ρ : Env) (a : Addr) : Prop := G.H0 a = none ∧ (∀ p ∈ G.pr, p.2 ≠ a) ∧ ∀ (i : Nat) (xs : OC), ρ[i]? = some (.cell xs) → σ[i]? ≠ some (some (.ref a))
section
variable {G : Gh} {σ : St} {H H' : Hp} {ρ : Env} {a p : Addr} {o : HO}
theorem StOk.fresh (k : StOk G σ H ρ) (hp : H p = none) : Fresh G σ ρ p := by
  refine ⟨?_, ?_, ?_⟩
  · cases e : G.H0 p with
    | none => rfl
    | some u =>
      by_cases c : ∀ q ∈ G.pr, q.2 ≠ p
      · have z := k.keep p u e c
        rw [hp] at z; cases z
      · exfalso
        apply c
        intro q hq e2
        obtain ⟨h1, xs, h2⟩ := k.prot q hq
        obtain ⟨b, vs, h3, h4, _⟩ := k.own q.1 xs h2
        rw [h1] at h3
        injection h3 with h3; injection h3 with h3; injection h3 with h3
        rw [← h3, e2, hp] at h4; cases h4
  · intro q hq e2
    obtain ⟨h1, xs, h2⟩ := k.prot q hq
    obtain ⟨b, vs, h3, h4, _⟩ := k.own q.1 xs h2
    rw [h1] at h3
    injection h3 with h3; injection h3 with h3; injection h3 with h3
    rw [← h3, e2, hp] at h4; cases h4
  · intro i xs hi e
    obtain ⟨b, vs, h3, h4, _⟩ := k.own i xs hi
    rw [e] at h3
    injection h3 with h3; injection h3 with h3; injection h3 with h3
    rw [← h3, hp] at h4; cases h4
/-- new objects -/
theorem StOk.grow (k : StOk G σ H ρ) (g : Grow H H') : StOk G σ H' ρ where
  len := k.len
  dat := fun i x h => by obtain ⟨v, h1, h2⟩ := k.dat i x h; exact ⟨v, h1, h2.st g.stable⟩
  own := fun i xs h => by obtain ⟨b, vs, h1, h2, h3, h4⟩ := k.own i xs h; exact ⟨b, vs, h1, g _ _ h2, h3.st g.stable, h4⟩
  sep := k.sep
  prot := k.prot
  keep := fun b u h1 h2 => g _ _ (k.keep b u h1 h2)
  exn := k.exn
/-- a place that is no own list's is written -/
theorem StOk.upd (k : StOk G σ H ρ) (f : Fresh G σ ρ p) (hf : ∀ u, H p = some u → ¬ Fixed u) : StOk G σ (upd H p o) ρ := by
  have st : Stable H (L2.upd H p o) := fun b u hb hx => by
    by_cases e : b = p
    · subst e; exact absurd hx (hf _ hb)
    · rw [upd_ne e]; exact hb
  refine ⟨k.len, ?_, ?_, k.sep, k.prot, ?_, k.exn⟩
  · intro i x h; obtain ⟨v, h1, h2⟩ := k.dat i x h; exact ⟨v, h1, h2.st st⟩
  · intro i xs h
    obtain ⟨b, vs, h1, h2, h3, h4⟩ := k.own i xs h
    refine ⟨b, vs, h1, ?_, h3.st st, h4⟩
    rw [upd_ne]
    · exact h2
    · intro e; subst e; exact f.2.2 i xs h h1
  · intro b u h1 h2
    have : b ≠ p := by intro e; subst e; rw [f.1] at h1; cases h1
    rw [upd_ne this]; exact k.keep b u h1 h2
end

end DL
end
section
namespace DL
open PySem PySem.Spec L2
open PyProof.Rows hiding St

/-! ### the monad -/
def pureM {α : Type} (x : α) : M α := fun ρ => .ok x ρ
def bindM {α β : Type} (a : M α) (k : α → M β) : M β := fun ρ => match a ρ with
  | .ok x ρ' => k x ρ'
  | .exc c ρ' => .exc c ρ'
  | .stuck => .stuck
def stuckM {α : Type} : M α := fun _ => .stuck
def liftM {α : Type} : Option α → M α
  | some x => pureM x
  | none => stuckM
def getM (i : Nat) : M D := fun ρ => match ρ[i]? with
  | some (.d x) => .ok x ρ
  | _ => .stuck
/-- an own list, read -/
def getO (i : Nat) : M (List D) := fun ρ => match ρ[i]? with
  | some (.cell (.l xs)) => .ok xs ρ
  | _ => .stuck
def putO (i : Nat) (xs : List D) : M Unit := fun ρ => .ok () (ρ.set i (.own xs))
def postG {α : Type} (G : Gh) (W : WX) (σ : L2.St) (H : Hp) (r : Res α) (Q : α → Env → Hp → Prop) : Prop := match r with
  | .ok a ρ => ∀ H', Stable H H' → StOk G σ H' ρ → Q a ρ H'
  | .exc c ρ => ∀ C H', G.m.mg c = some (.ref C) → Stable H H' → StOk G σ H' ρ → W (.ref C) none σ H'
  | .stuck => False
section
variable {G : Gh} {W : WX} {σ : L2.St} {H H1 : Hp} {α β : Type}
theorem postG.from {r : Res α} {Q : α → Env → Hp → Prop} (s : Stable H H1) (h : postG G W σ H r Q) : postG G W σ H1 r Q := by
  cases r with
  | ok a ρ => exact fun H' s' k => h H' (s.trans s') k
  | exc c ρ => exact fun C H' e s' k => h C H' e (s.trans s') k
  | stuck => exact h
theorem postG.mono {r : Res α} {Q Q' : α → Env → Hp → Prop} (h : postG G W σ H r Q) (k : ∀ a ρ H', r = .ok a ρ → Stable H H' → StOk G σ H' ρ → Q a ρ H' → Q' a ρ H') : postG G W σ H r Q' := by
  cases r with
  | ok a ρ => exact fun H' s' st => k a ρ H' rfl s' st (h H' s' st)
  | exc c ρ => exact h
  | stuck => exact h
theorem postG.bind {a : M α} {k : α → M β} {ρ : Env} {Q : β → Env → Hp → Prop} (h : postG G W σ H (bindM a k ρ) Q) :
    postG G W σ H (a ρ) (fun x ρ1 H1 => postG G W σ H1 (k x ρ1) Q) := by
  unfold bindM at h
  cases e : a ρ with
  | ok x ρ1 =>
    rw [e] at h
    exact fun H1 s1 _ => postG.from s1 h
  | exc c ρ1 => rw [e] at h; exact h
  | stuck => rw [e] at h; exact h
theorem postG.lift {o : Option α} {ρ : Env} {Q : α → Env → Hp → Prop} (k : StOk G σ H ρ) (h : postG G W σ H (liftM o ρ) Q) : ∃ x, o = some x ∧ ∀ H', Stable H H' → StOk G σ H' ρ → Q x ρ H' := by
  cases o with
  | some x => exact ⟨x, rfl, h⟩
  | none => exact h.elim
end

/-! ### expressions -/
def dT (G : Gh) (W : WX) (f : M D) : TE := fun σ H Q => ∃ ρ, StOk G σ H ρ ∧ postG G W σ H (f ρ) fun d _ H' => ∀ v, Rep G.m H' v d → Q v H'
/-- the expression computes f -/
def DE (X : Cx) (G : Gh) (W : WX) (e : Expr) (f : M D) : Prop := PE X e (dT G W f)
/-- .. a list of its own -/
def oT (G : Gh) (W : WX) (f : M (List D)) : TE := fun σ H Q => ∃ ρ, StOk G σ H ρ ∧ postG G W σ H (f ρ) fun ds ρ' H' => ∀ a vs, H' a = some (.lst vs) → RepL G.m H' vs ds → Fresh G σ ρ' a → Q (.ref a) H'
def DO (X : Cx) (G : Gh) (W : WX) (e : Expr) (f : M (List D)) : Prop := PE X e (oT G W f)
/-- a test -/
def tT (G : Gh) (W : WX) (f : M Bool) : TT := fun σ H Q => ∃ ρ, StOk G σ H ρ ∧ postG G W σ H (f ρ) fun b _ H' => Q b H'
def DT (X : Cx) (G : Gh) (W : WX) (e : Expr) (f : M Bool) : Prop := PT X e (tT G W f)
/-- arguments, all of them data -/
def aT (G : Gh) (W : WX) (f : M (List D)) : TA := fun σ H Q => ∃ ρ, StOk G σ H ρ ∧ postG G W σ H (f ρ) fun ds _ H' => ∀ vs, RepL G.m H' vs ds → Q vs H'
def DA (X : Cx) (G : Gh) (W : WX) (es : List Expr) (f : M (List D)) : Prop := PA X es (aT G W f)
theorem pe_imp {X : Cx} {e : Expr} {t t' : TE} (h : PE X e t) (k : ∀ σ H Q, t' σ H Q → t σ H Q) : PE X e t' := ⟨fun pins s σ H Q I q => h.run pins s σ H Q I (k σ H Q q)⟩
theorem pt_imp {X : Cx} {e : Expr} {t t' : TT} (h : PT X e t) (k : ∀ σ H Q, t' σ H Q → t σ H Q) : PT X e t' := ⟨fun pins s σ H Q I q => h.run pins s σ H Q I (k σ H Q q)⟩
theorem pw_imp {X : Cx} {e : Expr} {t t' : TT} (h : PW X e t) (k : ∀ σ H Q, t' σ H Q → t σ H Q) : PW X e t' := ⟨fun wh pins s σ H Q I q => h.run wh pins s σ H Q I (k σ H Q q)⟩
theorem pa_imp {X : Cx} {es : List Expr} {t t' : TA} (h : PA X es t) (k : ∀ σ H Q, t' σ H Q → t σ H Q) : PA X es t' := ⟨fun pos pins s σ H Q I q => h.run pos pins s σ H Q I (k σ H Q q)⟩
theorem ps_imp {X : Cx} {e : Stmt} {t t' : TS} (h : PS X e t) (k : ∀ D σ H, t' D σ H → t D σ H) : PS X e t' := ⟨fun pins s σ H D I q => h.run pins s σ H D I (k D σ H q)⟩
theorem pss_imp {X : Cx} {e : List Stmt} {t t' : TS} (h : PSs X e t) (k : ∀ D σ H, t' D σ H → t D σ H) : PSs X e t' := ⟨fun pins s σ H D I q => h.run pins s σ H D I (k D σ H q)⟩

/-- a fresh mutable object is frozen -/
def tFz (t : TE) : TE := fun σ H Q => t σ H fun v H' => Q v H' ∨ ∃ a u, v = .ref a ∧ H' a = some u ∧ Mut (some u) ∧ ∀ o, Q v (upd H' a (.frz o u))
theorem pe_fz {X : Cx} {e : Expr} {t : TE} (h : PE X e t) : PE X e (tFz t) := ⟨fun pins s σ H Q I q => thn (h.run pins s σ H _ I q) fun v s1 ⟨x, H1, I1, r, q1⟩ => by
  rcases q1 with q1 | ⟨a, u, e, hu, mu, q1⟩
  · exact ⟨x, H1, I1, r, q1⟩
  · obtain ⟨od, I2⟩ := I1.lock hu mu
    exact ⟨x, _, I2, r, q1 od⟩⟩
theorem nfix_of {u v : HO} {H : Hp} {a : Addr} (h : H a = some u) (m : ¬ Fixed u) (e : H a = some v) : ¬ Fixed v := by
  rw [h] at e; cases e
  exact m
theorem Stable.upd {H : Hp} {a : Addr} {u w : HO} (h : H a = some u) (m : ¬ Fixed u) : Stable H (L2.upd H a w) := fun b v hb fx => by
  by_cases e : b = a
  · subst e; exact absurd fx (nfix_of h m hb)
  · rw [upd_ne e]; exact hb

section
variable {X : Cx} {G : Gh} {W : WX} {e a b : Expr} {pos : Pos}
/-- a list of its own as data: frozen -/
def lstM (f : M (List D)) : M D := bindM f fun ds => pureM (.lst ds)
theorem de_fz {f : M (List D)} (h : DO X G W e f) : DE X G W e (lstM f) := pe_imp (pe_fz h) fun σ H Q ⟨ρ, k, q⟩ => ⟨ρ, k, q.bind.mono fun ds ρ1 H1 _ s1 k1 q1 a vs ha hr hf => .inr ⟨a, _, rfl, ha, trivial, fun o => by
  have st : Stable H1 (upd H1 a (.frz o (.lst vs))) := Stable.upd ha id
  exact q1 _ st (k1.upd hf fun u hu => nfix_of ha id hu) _ (.lst (.inl ⟨o, upd_same⟩) (hr.st st))⟩⟩

/-! ### names, constants -/
theorem de_var (i : Nat) {x : Str} (hN : X.N[i]? = some x) (hv : Vis X.env.scope x := by first | exact .inl rfl | exact .inr (.inl rfl) | exact .inr (.inr rfl)) (hd : (x == ("__debug__" : Str)) = false := by decide) (hcd : (x == ("__classdict__" : Str)) = false := by decide) :
    DE X G W (.Name x pos) (getM i) := pe_imp (pe_var (i := i) hN hv hd hcd) fun σ H Q ⟨ρ, k, q⟩ => by
  unfold getM at q
  cases e : ρ[i]? with
  | none => rw [e] at q; exact q.elim
  | some sl =>
    rw [e] at q
    cases sl with
    | no => exact q.elim
    | cell xs => exact q.elim
    | exn xs => exact q.elim
    | d x =>
      obtain ⟨v, h1, h2⟩ := k.dat i x e
      exact ⟨v, h1, q H Stable.rfl k v h2⟩
theorem de_int {i j} : DE X G W (.Constant (.int i) j pos) (pureM (.int i)) := pe_imp pe_int fun σ H Q ⟨ρ, k, q⟩ => q H Stable.rfl k _ (.int i)
theorem de_bl {i j} : DE X G W (.Constant (.bool i) j pos) (pureM (.bl i)) := pe_imp pe_bl fun σ H Q ⟨ρ, k, q⟩ => q H Stable.rfl k _ (.bl i)
theorem de_str {i j} : DE X G W (.Constant (.str i) j pos) (pureM (.str i)) := pe_imp pe_str fun σ H Q ⟨ρ, k, q⟩ => q H Stable.rfl k _ (.str i)
/-- a module's constant -/
theorem de_glob {x : Str} {v : V} {u : Value} {d : D} (hg : Gl X x) (hm : X.mg x = some u) (r : RelV v u) (rp : ∀ H, Rep G.m H v d) (hd : (x == ("__debug__" : Str)) = false := by decide) : DE X G W (.Name x pos) (pureM d) :=
  pe_imp (pe_glob hg hm r hd) fun σ H Q ⟨ρ, k, q⟩ => q H Stable.rfl k _ (rp H)

theorem de_globS {x z : Str} (hg : Gl X x) (hm : ∃ t, X.mg x = some (.str z t)) (hd : (x == ("__debug__" : Str)) = false := by decide) : DE X G W (.Name x pos) (pureM (.str z)) := by
  obtain ⟨t, h⟩ := hm
  exact de_glob (v := .str z) hg h ⟨t, rfl⟩ (fun _ => .str z) hd
theorem de_globI {x : Str} {z : Int} (hg : Gl X x) (hm : ∃ t, X.mg x = some (.int z t)) (hd : (x == ("__debug__" : Str)) = false := by decide) : DE X G W (.Name x pos) (pureM (.int z)) := by
  obtain ⟨t, h⟩ := hm
  exact de_glob (v := .int z) hg h ⟨t, rfl⟩ (fun _ => .int z) hd

/-! ### operators -/
def OpD (m : Md) (r : R2) (g : D → D → Option D) : Prop := ∀ (x y : V) (dx dy d : D) (H : Hp) (Q : VK), Rep m H x dx → Rep m H y dy → g dx dy = some d → (∀ v H', Grow H H' → Rep m H' v d → Q v H') → r x y H Q
def op2 (g : D → D → Option D) (fa fb : M D) : M D := bindM fa fun x => bindM fb fun y => liftM (g x y)
theorem op2_run {ta tb : TE} {r : R2} {g : D → D → Option D} {fa fb : M D} (hr : OpD G.m r g) (ia : ∀ σ H Q, dT G W fa σ H Q → ta σ H Q) (ib : ∀ σ H Q, dT G W fb σ H Q → tb σ H Q) {σ : L2.St} {H : Hp} {Q : VK} (h : dT G W (op2 g fa fb) σ H Q) : tOp r ta tb σ H Q := by
  obtain ⟨ρ, k, q⟩ := h
  refine ia _ _ _ ⟨ρ, k, q.bind.mono fun x ρ1 H1 _ s1 k1 q1 v rv => ?_⟩
  refine ib _ _ _ ⟨ρ1, k1, q1.bind.mono fun y ρ2 H2 _ s2 k2 q2 w rw' => ?_⟩
  obtain ⟨d, e, q3⟩ := q2.lift k2
  exact hr v w x y d H2 Q (rv.st s2) rw' e fun u H3 g3 r3 => q3 H3 g3.stable (k2.grow g3) u r3
theorem de_op {op : Operator} {r : R2} {g : D → D → Option D} {fa fb : M D} (ho : OpR X (binaryOp op) r) (hr : OpD G.m r g) (ha : DE X G W a fa) (hb : DE X G W b fb) : DE X G W (.BinOp a op b pos) (op2 g fa fb) :=
  pe_imp (pe_op ho ha hb) fun σ H Q h => op2_run hr (fun _ _ _ z => z) (fun _ _ _ z => z) h
theorem de_cmp {op : CmpOp} {r : R2} {g : D → D → Option D} {fa fb : M D} (ho : OpR X (compareOp op) r) (hr : OpD G.m r g) (ha : DE X G W a fa) (hb : DE X G W b fb) (hm : behindInMarks op b = false) : DE X G W (.Compare a [op] [b] pos) (op2 g fa fb) :=
  pe_imp (pe_cmpR ho ha hb hm) fun σ H Q h => op2_run hr (fun _ _ _ z => z) (fun _ _ _ z => z) h
theorem de_ix {r : R2} {g : D → D → Option D} {fa fb : M D} (ho : IxR X r) (hr : OpD G.m r g) (ha : DE X G W a fa) (hb : DE X G W b fb) (hs : PlainIx b := by exact fun _ _ => rfl) : DE X G W (.Subscript a b pos) (op2 g fa fb) :=
  pe_imp (pe_ix ho ha hb hs) fun σ H Q h => op2_run hr (fun _ _ _ z => z) (fun _ _ _ z => z) h
def boolM (f : M D) : M Bool := bindM f fun d => match d with
  | .bl b => pureM b
  | _ => stuckM
/-- a value that is True or False, as a test -/
theorem dt_val {f : M D} (h : DE X G W e f) (he : ∀ whole, isTrue e X.env whole = (do let v ← whole; standAt e.pos; holding [v] (truthy v)) := by intro _; rfl) : DT X G W e (boolM f) :=
  pt_imp (pt_val h he) fun σ H Q ⟨ρ, k, q⟩ => ⟨ρ, k, q.bind.mono fun d ρ1 H1 _ s1 k1 q1 v r => by
    cases r with
    | bl b => exact ⟨b, rfl, q1 H1 Stable.rfl k1⟩
    | _ => exact q1.elim⟩
theorem dt_cmp {op : CmpOp} {r : R2} {g : D → D → Option D} {fa fb : M D} (ho : OpR X (compareOp op) r) (hr : OpD G.m r g) (ha : DE X G W a fa) (hb : DE X G W b fb) (hm : behindInMarks op b = false) : DT X G W (.Compare a [op] [b] pos) (boolM (op2 g fa fb)) :=
  pt_imp (pt_cmpR ho ha hb hm) fun σ H Q ⟨ρ, k, q⟩ => op2_run hr (fun _ _ _ z => z) (fun _ _ _ z => z) ⟨ρ, k, q.bind.mono fun d ρ1 H1 _ s1 k1 q1 v r => by
    cases r with
    | bl b => exact ⟨b, rfl, q1 H1 Stable.rfl k1⟩
    | _ => exact q1.elim⟩
/-! ### and, or, not -/
def DW (X : Cx) (G : Gh) (W : WX) (e : Expr) (f : M Bool) : Prop := PW X e (tT G W f)
def andM (f g : M Bool) : M Bool := bindM f fun b => match b with
  | true => g
  | false => pureM false
def orM (f g : M Bool) : M Bool := bindM f fun b => match b with
  | true => pureM true
  | false => g
def notM (f : M Bool) : M Bool := bindM f fun b => pureM (!b)
theorem dw_and1 {f : M Bool} (h : DT X G W a f) : DW X G W (.BoolOp .And [a] pos) f := pw_and1 h
theorem dw_or1 {f : M Bool} (h : DT X G W a f) : DW X G W (.BoolOp .Or [a] pos) f := pw_or1 h
theorem dw_and {rest : List Expr} {f g : M Bool} (ha : DT X G W a f) (hb : DW X G W (.BoolOp .And (b :: rest) pos) g) : DW X G W (.BoolOp .And (a :: b :: rest) pos) (andM f g) :=
  pw_imp (pw_and ha hb) fun σ H Q ⟨ρ, k, q⟩ => ⟨ρ, k, q.bind.mono fun c ρ1 H1 _ s1 k1 q1 => by
    cases c with
    | true => rw [if_pos rfl]; exact ⟨ρ1, k1, q1⟩
    | false => rw [if_neg (by decide)]; exact q1 H1 Stable.rfl k1⟩
theorem dw_or {rest : List Expr} {f g : M Bool} (ha : DT X G W a f) (hb : DW X G W (.BoolOp .Or (b :: rest) pos) g) : DW X G W (.BoolOp .Or (a :: b :: rest) pos) (orM f g) :=
  pw_imp (pw_or ha hb) fun σ H Q ⟨ρ, k, q⟩ => ⟨ρ, k, q.bind.mono fun c ρ1 H1 _ s1 k1 q1 => by
    cases c with
    | true => rw [if_pos rfl]; exact q1 H1 Stable.rfl k1
    | false => rw [if_neg (by decide)]; exact ⟨ρ1, k1, q1⟩⟩
theorem dt_w {f : M Bool} (h : DW X G W e f) : DT X G W e f := h.pt
theorem dt_not {f : M Bool} (h : DT X G W a f) : DT X G W (.UnaryOp .Not a pos) (notM f) :=
  pt_imp (pt_not h) fun σ H Q ⟨ρ, k, q⟩ => ⟨ρ, k, q.bind.mono fun c ρ1 H1 _ s1 k1 q1 => q1 H1 Stable.rfl k1⟩
/-- values -/
def andV (f g : M D) : M D := bindM f fun b => match b with
  | .bl true => g
  | .bl false => pureM (.bl false)
  | _ => stuckM
def orV (f g : M D) : M D := bindM f fun b => match b with
  | .bl true => pureM (.bl true)
  | .bl false => g
  | _ => stuckM
def notV (f : M D) : M D := bindM f fun b => match b with
  | .bl b => pureM (.bl (!b))
  | _ => stuckM
theorem de_one {op} {f : M D} (h : DE X G W a f) : DE X G W (.BoolOp op [a] pos) f := pe_one h
theorem de_and {rest : List Expr} {f g : M D} (ha : DE X G W a f) (hb : DE X G W (.BoolOp .And (b :: rest) pos) g) : DE X G W (.BoolOp .And (a :: b :: rest) pos) (andV f g) :=
  pe_imp (pe_and ha hb) fun σ H Q ⟨ρ, k, q⟩ => ⟨ρ, k, q.bind.mono fun c ρ1 H1 _ s1 k1 q1 v r => by
    cases r with
    | bl b =>
      refine ⟨b, rfl, ?_⟩
      cases b with
      | true => rw [if_pos rfl]; exact ⟨ρ1, k1, q1⟩
      | false => rw [if_neg (by decide)]; exact q1 H1 Stable.rfl k1 _ (.bl false)
    | _ => exact q1.elim⟩
def iteM {α : Type} (c : M Bool) (f g : M α) : M α := bindM c fun b => match b with
  | true => f
  | false => g
theorem de_if {c : Expr} {t : M Bool} {f g : M D} (hc : DT X G W c t) (ha : DE X G W a f) (hb : DE X G W b g) : DE X G W (.IfExp c a b pos) (iteM t f g) :=
  pe_imp (pe_ifExp hc ha hb) fun σ H Q ⟨ρ, k, q⟩ => ⟨ρ, k, q.bind.mono fun c ρ1 H1 _ s1 k1 q1 => by
    cases c with
    | true => rw [if_pos rfl]; exact ⟨ρ1, k1, q1⟩
    | false => rw [if_neg (by decide)]; exact ⟨ρ1, k1, q1⟩⟩
/-- x is None -/
def isNb : D → Bool
  | .non => true
  | _ => false
def isN (f : M D) : M D := bindM f fun d => pureM (.bl (isNb d))
def notN (f : M D) : M D := bindM f fun d => pureM (.bl (!isNb d))
theorem Rep.isN {m : Md} {H : Hp} {v : V} {d : D} (r : Rep m H v d) : decide (v = V.non) = isNb d := by
  cases r <;> simp [isNb]
/-! ### arguments, displays -/
theorem da_nil : DA X G W [] (pureM []) := pa_imp pa_nil fun σ H Q ⟨ρ, k, q⟩ => q H Stable.rfl k _ .nil
def consM (f : M D) (g : M (List D)) : M (List D) := bindM f fun x => bindM g fun xs => pureM (x :: xs)
theorem da_cons {es : List Expr} {f : M D} {g : M (List D)} (ha : DE X G W e f) (hr : DA X G W es g) (hs : starEach (e :: es) X.env = (false, eval e X.env) :: starEach es X.env := by rfl) : DA X G W (e :: es) (consM f g) :=
  pa_imp (pa_cons ha hr hs) fun σ H Q ⟨ρ, k, q⟩ => ⟨ρ, k, q.bind.mono fun x ρ1 H1 _ s1 k1 q1 v r => ⟨ρ1, k1, q1.bind.mono fun xs ρ2 H2 _ s2 k2 q2 vs rs => q2 H2 Stable.rfl k2 _ (.cons (r.st s2) rs)⟩⟩
def sizeM (f : M (List D)) : M (List D) := bindM f fun xs => if xs.length ≤ sizeLine then pureM xs else stuckM
theorem do_lst {es : List Expr} {f : M (List D)} (h : DA X G W es f) : DO X G W (.List es pos) (sizeM f) :=
  pe_imp (pe_lst h) fun σ H Q ⟨ρ, k, q⟩ => ⟨ρ, k, q.bind.mono fun xs ρ1 H1 _ s1 k1 q1 vs r => by
    by_cases hz : xs.length ≤ sizeLine
    · rw [if_pos hz] at q1
      refine ⟨by rw [r.len]; exact hz, fun p hp => ?_⟩
      have g := Grow.new (o := .lst vs) hp
      exact q1 _ g.stable (k1.grow g) p vs upd_same (r.st g.stable) (k1.fresh hp)
    · rw [if_neg hz] at q1; exact q1.elim⟩
def tupM (f : M (List D)) : M D := bindM (sizeM f) fun xs => pureM (.tup xs)
theorem de_tup {x1} {es : List Expr} {f : M (List D)} (h : DA X G W es f) : DE X G W (.Tuple es x1 pos) (tupM f) :=
  pe_imp (pe_tup h) fun σ H Q ⟨ρ, k, q⟩ => ⟨ρ, k, q.bind.bind.mono fun xs ρ1 H1 _ s1 k1 q1 vs r => by
    by_cases hz : xs.length ≤ sizeLine
    · rw [if_pos hz] at q1
      refine ⟨by rw [r.len]; exact hz, fun p hp => ?_⟩
      have g := Grow.new (o := .tup vs) hp
      exact q1 H1 Stable.rfl k1 _ g.stable (k1.grow g) _ (.tup (SqT.of upd_same) (r.st g.stable))
    · rw [if_neg hz] at q1; exact q1.elim⟩

/-! ### calls of builtins -/
def CallD (m : Md) (r : List V → Hp → VK → Prop) (g : List D → Option D) : Prop := ∀ (vs : List V) (ds : List D) (d : D) (H : Hp) (Q : VK), RepL m H vs ds → g ds = some d → (∀ v H', Grow H H' → Rep m H' v d → Q v H') → r vs H Q
def CallO (m : Md) (r : List V → Hp → VK → Prop) (g : List D → Option (List D)) : Prop := ∀ (vs : List V) (ds d : List D) (H : Hp) (Q : VK), RepL m H vs ds → g ds = some d → (∀ p ws H', Grow H H' → H p = none → H' p = some (.lst ws) → RepL m H' ws d → Q (.ref p) H') → r vs H Q
def callD (g : List D → Option D) (f : M (List D)) : M D := bindM f fun xs => liftM (g xs)
def callO (g : List D → Option (List D)) (f : M (List D)) : M (List D) := bindM f fun xs => liftM (g xs)
theorem callD_run {t : TA} {r : List V → Hp → VK → Prop} {g : List D → Option D} {f : M (List D)} (hr : CallD G.m r g) (ia : ∀ σ H Q, aT G W f σ H Q → t σ H Q) {σ : L2.St} {H : Hp} {Q : VK} (h : dT G W (callD g f) σ H Q) : tCB r t σ H Q := by
  obtain ⟨ρ, k, q⟩ := h
  refine ia _ _ _ ⟨ρ, k, q.bind.mono fun xs ρ1 H1 _ s1 k1 q1 vs rv => ?_⟩
  obtain ⟨d, e, q3⟩ := q1.lift k1
  exact hr vs xs d H1 Q rv e fun u H3 g3 r3 => q3 H3 g3.stable (k1.grow g3) u r3
variable {x : Str} {p : Pos} {es : List Expr} {id T : String}
theorem de_callB {r : List V → Hp → VK → Prop} {g : List D → Option D} {f : M (List D)} (hc : CallR X (.builtin id) r) (hr : CallD G.m r g) (hg : Gl X x) (hm : X.mg x = none) (hv : bootBuiltins x = some (.builtin id)) (ha : DA X G W (e :: es) f) (hn : x ≠ "__name__" := by decide) (hdb : (x == ("__debug__" : Str)) = false := by decide)
    (he : starEach (e :: es) X.env = (false, eval e X.env) :: starEach es X.env := by rfl) (hpl : (backTo pos (starEach es X.env)).any (·.1) = false := by rfl) : DE X G W (.Call (.Name x p) (e :: es) [] pos) (callD g f) :=
  pe_imp (pe_callB hc hg hm hv ha hn hdb he hpl) fun σ H Q h => callD_run hr (fun _ _ _ z => z) h
theorem de_callTy {r : List V → Hp → VK → Prop} {g : List D → Option D} {f : M (List D)} (hc : CallR X (.type T) r) (hr : CallD G.m r g) (hg : Gl X x) (hm : X.mg x = none) (hv : bootBuiltins x = some (.type T)) (ha : DA X G W (e :: es) f) (hn : x ≠ "__name__" := by decide) (hdb : (x == ("__debug__" : Str)) = false := by decide)
    (he : starEach (e :: es) X.env = (false, eval e X.env) :: starEach es X.env := by rfl) (hpl : (backTo pos (starEach es X.env)).any (·.1) = false := by rfl) : DE X G W (.Call (.Name x p) (e :: es) [] pos) (callD g f) :=
  pe_imp (pe_callTy hc hg hm hv ha hn hdb he hpl) fun σ H Q h => callD_run hr (fun _ _ _ z => z) h
end
end DL
end
section
namespace DL
open PySem PySem.Spec L2
open PyProof.Rows hiding St

/-! ### stores into the slots -/
section
variable {G : Gh} {σ : L2.St} {H H' : Hp} {ρ : Env} {a p : Addr} {o : HO}
theorem set_get {α : Type} {l : List α} {i j : Nat} {x y : α} (h : (l.set i x)[j]? = some y) : (i = j ∧ y = x ∧ i < l.length) ∨ (i ≠ j ∧ l[j]? = some y) := by
  by_cases e : i = j
  · subst e
    rw [List.getElem?_set_self'] at h
    cases q : l[i]? with
    | none => rw [q] at h; simp at h
    | some z =>
      rw [q] at h; simp at h
      exact .inl ⟨rfl, h.symm, (List.getElem?_eq_some_iff.mp q).1⟩
  · rw [List.getElem?_set_ne e] at h
    exact .inr ⟨e, h⟩
/-- slot i is stored; the rest stands -/
theorem StOk.setD (k : StOk G σ H ρ) {i : Nat} {v : V} {d : D} (hp : ∀ p ∈ G.pr, p.1 ≠ i) (r : Rep G.m H v d) : StOk G (σ.set i (some v)) H (ρ.set i (.d d)) where
  len := by simp [k.len]
  dat := fun j x h => by
    rcases set_get h with ⟨e, e2, hl⟩ | ⟨e, h⟩
    · subst e; cases e2
      exact ⟨v, by rw [List.getElem?_set_self (by rw [k.len]; exact hl)], r⟩
    · obtain ⟨w, h1, h2⟩ := k.dat j x h
      exact ⟨w, by rw [List.getElem?_set_ne e]; exact h1, h2⟩
  own := fun j xs h => by
    rcases set_get h with ⟨e, e2, hl⟩ | ⟨e, h⟩
    · cases e2
    · obtain ⟨b, vs, h1, h2⟩ := k.own j xs h
      exact ⟨b, vs, by rw [List.getElem?_set_ne e]; exact h1, h2⟩
  sep := fun j l xs ys b ne h1 h2 h3 => by
    rcases set_get h1 with ⟨e, e2, hl⟩ | ⟨e, h1⟩
    · cases e2
    rcases set_get h2 with ⟨e', e2, hl⟩ | ⟨e', h2⟩
    · cases e2
    rw [List.getElem?_set_ne e] at h3
    rw [List.getElem?_set_ne e']
    exact k.sep j l xs ys b ne h1 h2 h3
  prot := fun p hm => by
    obtain ⟨h1, xs, h2⟩ := k.prot p hm
    have ne : i ≠ p.1 := fun e => hp p hm e.symm
    exact ⟨by rw [List.getElem?_set_ne ne]; exact h1, xs, by rw [List.getElem?_set_ne ne]; exact h2⟩
  keep := k.keep
  exn := fun j c h => by
    rcases set_get h with ⟨e, e2, hl⟩ | ⟨e, h⟩
    · cases e2
    · obtain ⟨b, h1, h2⟩ := k.exn j c h
      exact ⟨b, h1, by rw [List.getElem?_set_ne e]; exact h2⟩
theorem StOk.setC (k : StOk G σ H ρ) {i : Nat} {vs : HO} {ds : OC} (hp : ∀ p ∈ G.pr, p.1 ≠ i) (ha : H a = some vs) (r : RepO G.m H a vs ds) (f : Fresh G σ ρ a) : StOk G (σ.set i (some (.ref a))) H (ρ.set i (.cell ds)) where
  len := by simp [k.len]
  dat := fun j x h => by
    rcases set_get h with ⟨e, e2, hl⟩ | ⟨e, h⟩
    · cases e2
    · obtain ⟨w, h1, h2⟩ := k.dat j x h
      exact ⟨w, by rw [List.getElem?_set_ne e]; exact h1, h2⟩
  own := fun j xs h => by
    rcases set_get h with ⟨e, e2, hl⟩ | ⟨e, h⟩
    · subst e; cases e2
      exact ⟨a, vs, by rw [List.getElem?_set_self (by rw [k.len]; exact hl)], ha, r, fun _ => ⟨f.1, f.2.1⟩⟩
    · obtain ⟨b, vs, h1, h2⟩ := k.own j xs h
      exact ⟨b, vs, by rw [List.getElem?_set_ne e]; exact h1, h2⟩
  sep := fun j l xs ys b ne h1 h2 h3 => by
    rcases set_get h1 with ⟨e, e2, hl⟩ | ⟨e, h1⟩
    · subst e; cases e2
      rw [List.getElem?_set_self (by rw [k.len]; exact hl)] at h3
      injection h3 with h3; injection h3 with h3; injection h3 with h3
      subst h3
      rcases set_get h2 with ⟨e', e2, hl⟩ | ⟨e', h2⟩
      · exact absurd e' ne
      · rw [List.getElem?_set_ne e']
        exact f.2.2 l ys h2
    · rw [List.getElem?_set_ne e] at h3
      rcases set_get h2 with ⟨e', e2, hl⟩ | ⟨e', h2⟩
      · subst e'; cases e2
        rw [List.getElem?_set_self (by rw [k.len]; exact hl)]
        intro h4
        injection h4 with h4; injection h4 with h4; injection h4 with h4
        subst h4
        exact f.2.2 j xs h1 h3
      · rw [List.getElem?_set_ne e']
        exact k.sep j l xs ys b ne h1 h2 h3
  prot := fun p hm => by
    obtain ⟨h1, xs, h2⟩ := k.prot p hm
    have ne : i ≠ p.1 := fun e => hp p hm e.symm
    exact ⟨by rw [List.getElem?_set_ne ne]; exact h1, xs, by rw [List.getElem?_set_ne ne]; exact h2⟩
  keep := k.keep
  exn := fun j c h => by
    rcases set_get h with ⟨e, e2, hl⟩ | ⟨e, h⟩
    · cases e2
    · obtain ⟨b, h1, h2⟩ := k.exn j c h
      exact ⟨b, h1, by rw [List.getElem?_set_ne e]; exact h2⟩
/-- an own list's content is written -/
theorem StOk.wroteC (k : StOk G σ H ρ) {i : Nat} {xs : OC} {vs : HO} {ds : OC} (hi : ρ[i]? = some (.cell xs)) (ha : σ[i]? = some (some (.ref a))) (r : RepO G.m H a vs ds) : StOk G σ (L2.upd H a vs) (ρ.set i (.cell ds)) := by
  obtain ⟨a', vs0, h1, h2, h3, h4⟩ := k.own i xs hi
  rw [ha] at h1; injection h1 with h1; injection h1 with h1; injection h1 with h1
  subst h1
  have st : Stable H (L2.upd H a vs) := fun b u hb fx => by
    by_cases e : b = a
    · subst e; rw [h2] at hb; cases hb; exact absurd fx h3.nf
    · rw [upd_ne e]; exact hb
  have hl : i < ρ.length := (List.getElem?_eq_some_iff.mp hi).1
  refine ⟨by simp [k.len], fun j x h => ?_, fun j ys h => ?_, fun j l ys zs b ne e1 e2 e3 => ?_, fun p hm => ?_, fun b u e1 e2 => ?_, fun j c h => ?_⟩
  · rcases set_get h with ⟨e, e2, hl⟩ | ⟨e, h⟩
    · cases e2
    · obtain ⟨w, q1, q2⟩ := k.dat j x h
      exact ⟨w, q1, q2.st st⟩
  · rcases set_get h with ⟨e, e2, hl⟩ | ⟨e, h⟩
    · subst e; cases e2
      exact ⟨a, vs, ha, upd_same, r.st st, h4⟩
    · obtain ⟨b, ws, q1, q2, q3, q4⟩ := k.own j ys h
      refine ⟨b, ws, q1, ?_, q3.st st, q4⟩
      rw [upd_ne]
      · exact q2
      · intro z; subst z
        exact k.sep i j xs ys b e hi h ha q1
  · have o1 : ∃ us, ρ[j]? = some (.cell us) := by
      rcases set_get e1 with ⟨e, _, _⟩ | ⟨_, h⟩
      · subst e; exact ⟨xs, hi⟩
      · exact ⟨_, h⟩
    have o2 : ∃ us, ρ[l]? = some (.cell us) := by
      rcases set_get e2 with ⟨e, _, _⟩ | ⟨_, h⟩
      · subst e; exact ⟨xs, hi⟩
      · exact ⟨_, h⟩
    obtain ⟨u1, o1⟩ := o1
    obtain ⟨u2, o2⟩ := o2
    exact k.sep j l u1 u2 b ne o1 o2 e3
  · obtain ⟨q1, ys, q2⟩ := k.prot p hm
    refine ⟨q1, ?_⟩
    by_cases e : i = p.1
    · exact ⟨ds, by rw [← e, List.getElem?_set_self hl]⟩
    · exact ⟨ys, by rw [List.getElem?_set_ne e]; exact q2⟩
  · have : b ≠ a := by
      intro z; subst z
      by_cases c : ∀ p ∈ G.pr, p.1 ≠ i
      · have q := (h4 c).1
        rw [e1] at q; cases q
      · apply c
        intro p hp z
        obtain ⟨q1, _⟩ := k.prot p hp
        rw [z, ha] at q1
        injection q1 with q1; injection q1 with q1; injection q1 with q1
        exact e2 p hp q1.symm
    rw [upd_ne this]; exact k.keep b u e1 e2
  · rcases set_get h with ⟨e, e2, hl⟩ | ⟨e, h⟩
    · cases e2
    · exact k.exn j c h
/-- an own slot becomes data: its list is frozen -/
theorem StOk.frozeC (k : StOk G σ H ρ) {i : Nat} {xs : OC} {vs : HO} {d : D} {ob : Obj} (hp : ∀ p ∈ G.pr, p.1 ≠ i) (hi : ρ[i]? = some (.cell xs)) (ha : σ[i]? = some (some (.ref a))) (hv : H a = some vs) (r : RepO G.m H a vs xs) (rd : Rep G.m (L2.upd H a (.frz ob vs)) (.ref a) d) : StOk G σ (L2.upd H a (.frz ob vs)) (ρ.set i (.d d)) := by
  obtain ⟨a', vs0, h1, h2, h3, h4⟩ := k.own i xs hi
  rw [ha] at h1; injection h1 with h1; injection h1 with h1; injection h1 with h1
  subst h1
  have st : Stable H (L2.upd H a (.frz ob vs)) := Stable.upd hv r.nf
  have hl : i < ρ.length := (List.getElem?_eq_some_iff.mp hi).1
  refine ⟨by simp [k.len], fun j x h => ?_, fun j ys h => ?_, fun j l ys zs b ne e1 e2 e3 => ?_, fun p hm => ?_, fun b u e1 e2 => ?_, fun j c h => ?_⟩
  · rcases set_get h with ⟨e, e2, hl⟩ | ⟨e, h⟩
    · subst e; cases e2
      exact ⟨_, ha, rd⟩
    · obtain ⟨w, q1, q2⟩ := k.dat j x h
      exact ⟨w, q1, q2.st st⟩
  · rcases set_get h with ⟨e, e2, hl⟩ | ⟨e, h⟩
    · cases e2
    · obtain ⟨b, ws, q1, q2, q3, q4⟩ := k.own j ys h
      refine ⟨b, ws, q1, ?_, q3.st st, q4⟩
      rw [upd_ne]
      · exact q2
      · intro z; subst z
        exact k.sep i j xs ys b e hi h ha q1
  · rcases set_get e1 with ⟨e, q, _⟩ | ⟨_, g1⟩
    · cases q
    rcases set_get e2 with ⟨e, q, _⟩ | ⟨_, g2⟩
    · cases q
    exact k.sep j l ys zs b ne g1 g2 e3
  · obtain ⟨q1, ys, q2⟩ := k.prot p hm
    have e : i ≠ p.1 := fun z => hp p hm z.symm
    exact ⟨q1, ys, by rw [List.getElem?_set_ne e]; exact q2⟩
  · have : b ≠ a := by
      intro z; subst z
      have q := (h4 hp).1
      rw [e1] at q; cases q
    rw [upd_ne this]; exact k.keep b u e1 e2
  · rcases set_get h with ⟨e, e2, hl⟩ | ⟨e, h⟩
    · cases e2
    · exact k.exn j c h
theorem StOk.setO (k : StOk G σ H ρ) {i : Nat} {vs : List V} {ds : List D} (hp : ∀ p ∈ G.pr, p.1 ≠ i) (ha : H a = some (.lst vs)) (r : RepL G.m H vs ds) (f : Fresh G σ ρ a) : StOk G (σ.set i (some (.ref a))) H (ρ.set i (.own ds)) := k.setC hp ha ⟨vs, rfl, r⟩ f
theorem StOk.wrote (k : StOk G σ H ρ) {i : Nat} {xs : List D} {vs : List V} {ds : List D} (hi : ρ[i]? = some (.own xs)) (ha : σ[i]? = some (some (.ref a))) (r : RepL G.m H vs ds) : StOk G σ (L2.upd H a (.lst vs)) (ρ.set i (.own ds)) := k.wroteC hi ha ⟨vs, rfl, r⟩
/-- an own list -/
theorem StOk.ownL (k : StOk G σ H ρ) (i : Nat) (xs : List D) (h : ρ[i]? = some (.own xs)) : ∃ a vs, σ[i]? = some (some (.ref a)) ∧ H a = some (.lst vs) ∧ RepL G.m H vs xs ∧ ((∀ p ∈ G.pr, p.1 ≠ i) → G.H0 a = none ∧ ∀ p ∈ G.pr, p.2 ≠ a) := by
  obtain ⟨a, o, h1, h2, ⟨vs, rfl, h3⟩, h4⟩ := k.own i _ h
  exact ⟨a, vs, h1, h2, h3, h4⟩
end

/-! ### own lists in expressions -/
section
variable {X : Cx} {G : Gh} {W : WX} {e a b : Expr} {pos : Pos}
theorem getO_run {i : Nat} {ρ : Env} {σ : L2.St} {H : Hp} {β : Type} {k : List D → M β} {Q : β → Env → Hp → Prop} (h : postG G W σ H (bindM (getO i) k ρ) Q) : ∃ xs, ρ[i]? = some (.own xs) ∧ postG G W σ H (k xs ρ) Q := by
  unfold bindM at h
  cases e : ρ[i]? with
  | none =>
    have e2 : getO i ρ = .stuck := by unfold getO; rw [e]
    rw [e2] at h; exact h.elim
  | some sl =>
    match sl, e with
    | .cell (.l xs), e =>
      have e2 : getO i ρ = .ok xs ρ := by unfold getO; rw [e]
      rw [e2] at h; exact ⟨xs, rfl, h⟩
    | .cell (.k _ _), e =>
      have e2 : getO i ρ = .stuck := by unfold getO; rw [e]
      rw [e2] at h; exact h.elim
    | .no, e =>
      have e2 : getO i ρ = .stuck := by unfold getO; rw [e]
      rw [e2] at h; exact h.elim
    | .d _, e =>
      have e2 : getO i ρ = .stuck := by unfold getO; rw [e]
      rw [e2] at h; exact h.elim
    | .exn _, e =>
      have e2 : getO i ρ = .stuck := by unfold getO; rw [e]
      rw [e2] at h; exact h.elim
def pfree (G : Gh) (i : Nat) : Prop := ∀ p ∈ G.pr, p.1 ≠ i
/-- the slot's data; an own list is frozen -/
def ocD : OC → D
  | .l xs => .lst xs
  | .k ks vs => .dic ks vs
theorem RepO.data {m : Md} {H : Hp} {a : Addr} {o : HO} {ob : Obj} (e : H a = some o) : ∀ {c : OC}, RepO m H a o c → Rep m (upd H a (.frz ob o)) (.ref a) (ocD c)
  | .l _, ⟨vs, q, r⟩ => by subst q; exact .lst (.inl ⟨ob, upd_same⟩) (r.st (Stable.upd e id))
  | .k _ _, .inl ⟨kvs, q, q2, r⟩ => by subst q; subst q2; exact .dicK upd_same (r.st (Stable.upd e id))
  | .k _ _, .inr ⟨kvs, q, n, q2, r1, r2⟩ => by subst q; exact .dicN upd_same n q2 (r1.st (Stable.upd e id)) (r2.st (Stable.upd e id))
def rdM (i : Nat) : M D := fun ρ => match ρ[i]? with
  | some (.d x) => .ok x ρ
  | some (.cell c) => .ok (ocD c) (ρ.set i (.d (ocD c)))
  | _ => .stuck
theorem de_rd (i : Nat) {x : Str} (hp : pfree G i) (hN : X.N[i]? = some x) (hv : Vis X.env.scope x := by first | exact .inl rfl | exact .inr (.inl rfl) | exact .inr (.inr rfl)) (hd : (x == ("__debug__" : Str)) = false := by decide) (hcd : (x == ("__classdict__" : Str)) = false := by decide) :
    DE X G W (.Name x pos) (rdM i) := pe_imp (pe_fz (pe_var (i := i) hN hv hd hcd)) fun σ H Q ⟨ρ, k, q⟩ => by
  unfold rdM at q
  cases e : ρ[i]? with
  | none => simp only [e] at q; exact q.elim
  | some sl =>
    cases sl with
    | no => simp only [e] at q; exact q.elim
    | exn c => simp only [e] at q; exact q.elim
    | d y =>
      simp only [e] at q
      obtain ⟨v, h1, h2⟩ := k.dat i y e
      exact ⟨v, h1, .inl (q H Stable.rfl k v h2)⟩
    | cell c =>
      simp only [e] at q
      obtain ⟨a, u, h1, h2, h3, h4⟩ := k.own i c e
      refine ⟨_, h1, .inr ⟨a, _, rfl, h2, h3.mt, fun o => ?_⟩⟩
      have st : Stable H (upd H a (.frz o u)) := Stable.upd h2 h3.nf
      have rd := h3.data (ob := o) h2
      exact q _ st (k.frozeC hp e h1 h2 h3 rd) _ rd
/-- the own list in slot i is handed on as a list of its own (a return) -/
def giveM (i : Nat) : M (List D) := bindM (getO i) fun xs => fun ρ => .ok xs (ρ.set i .no)
def opO (i : Nat) (g : List D → D → Option D) (fb : M D) : M D := bindM fb fun y => bindM (getO i) fun xs => liftM (g xs y)
end
end DL
end
section
namespace DL
open PySem PySem.Spec L2
open PyProof.Rows hiding St

/-! ### statements -/
/-- data that may be a container of the def's own -/
def conOf : D → Option OC
  | .lst xs => some (.l xs)
  | .dic ks vs => some (.k ks vs)
  | _ => none
/-- what a def tells: data, a container of its own, a tuple whose last is one -/
inductive RM where
  | f | o | t
abbrev RM.b : RM → Bool
  | .f => false
  | _ => true
def splitT : D → Option (List D × OC)
  | .tup ds => match ds.getLast? with
    | some e => (conOf e).map fun c => (ds.dropLast, c)
    | none => none
  | _ => none
def TupOk (m : Md) (H : Hp) (v : V) (xs : List D) (c : OC) (F : Addr → Prop) : Prop := ∃ t vs b o, v = .ref t ∧ SqT m.K H t (vs ++ [.ref b]) ∧ RepL m H vs xs ∧ H b = some o ∧ RepO m H b o c ∧ F b
def RetOk (rm : RM) (G : Gh) (H : Hp) (v : V) (d : D) : Prop := match rm with
  | .f => Rep G.m H v d
  | .o => match conOf d with
    | some c => ∃ a o, v = .ref a ∧ H a = some o ∧ RepO G.m H a o c ∧ G.H0 a = none ∧ ∀ p ∈ G.pr, p.2 ≠ a
    | none => Rep G.m H v d
  | .t => match splitT d with
    | some z => TupOk G.m H v z.1 z.2 fun b => G.H0 b = none ∧ ∀ p ∈ G.pr, p.2 ≠ b
    | none => False
def postS (G : Gh) (W : WX) (rm : RM) (H : Hp) (r : Res Flow) (E : Ends) : Prop := match r with
  | .ok .nx ρ => ∀ σ' H', Stable H H' → StOk G σ' H' ρ → E.nx σ' H'
  | .ok (.ret d) ρ => ∀ v σ' H', Stable H H' → StOk G σ' H' ρ → RetOk rm G H' v d → E.rt v H'
  | .ok .brk ρ => ∀ σ' H', Stable H H' → StOk G σ' H' ρ → E.bk σ' H'
  | .ok .ct ρ => ∀ σ' H', Stable H H' → StOk G σ' H' ρ → E.ct σ' H'
  | .exc c ρ => ∀ σ' C H', G.m.mg c = some (.ref C) → Stable H H' → StOk G σ' H' ρ → W (.ref C) none σ' H'
  | .stuck => False
def sT (G : Gh) (W : WX) (rm : RM) (f : MS) : TS := fun E σ H => ∃ ρ, StOk G σ H ρ ∧ postS G W rm H (f ρ) E
def DS (X : Cx) (G : Gh) (W : WX) (rm : RM) (st : Stmt) (f : MS) : Prop := PS X st (sT G W rm f)
def DSs (X : Cx) (G : Gh) (W : WX) (rm : RM) (st : List Stmt) (f : MS) : Prop := PSs X st (sT G W rm f)
section
variable {G : Gh} {W : WX} {rm : RM} {σ : L2.St} {H H1 : Hp} {α : Type} {E : Ends}
theorem postS.from {r : Res Flow} (s : Stable H H1) (h : postS G W rm H r E) : postS G W rm H1 r E := by
  cases r with
  | ok f ρ =>
    cases f with
    | nx => exact fun σ' H' s' k => h σ' H' (s.trans s') k
    | ret d => exact fun v σ' H' s' k => h v σ' H' (s.trans s') k
    | brk => exact fun σ' H' s' k => h σ' H' (s.trans s') k
    | ct => exact fun σ' H' s' k => h σ' H' (s.trans s') k
  | exc c ρ => exact fun σ' C H' e s' k => h σ' C H' e (s.trans s') k
  | stuck => exact h
theorem postS.bind {a : M α} {k : α → MS} {ρ : Env} (h : postS G W rm H (bindM a k ρ) E) : postG G W σ H (a ρ) (fun x ρ1 H1 => postS G W rm H1 (k x ρ1) E) := by
  unfold bindM at h
  cases e : a ρ with
  | ok x ρ1 =>
    rw [e] at h
    exact fun H1 s1 _ => postS.from s1 h
  | exc c ρ1 => rw [e] at h; exact fun C H' e s' k => h σ C H' e s' k
  | stuck => rw [e] at h; exact h
end
def seqM (a b : MS) : MS := fun ρ => match a ρ with
  | .ok .nx ρ' => b ρ'
  | r => r
def skipM : MS := fun ρ => .ok .nx ρ
def setM (i : Nat) (f : M D) : MS := bindM f fun d ρ => .ok .nx (ρ.set i (.d d))
def setOM (i : Nat) (f : M (List D)) : MS := bindM f fun ds ρ => .ok .nx (ρ.set i (.own ds))
def dropM (f : M D) : MS := bindM f fun _ ρ => .ok .nx ρ
def retM (f : M D) : MS := bindM f fun d ρ => .ok (.ret d) ρ
def retOM (f : M (List D)) : MS := bindM f fun ds ρ => .ok (.ret (.lst ds)) ρ
def ifM (c : M Bool) (a b : MS) : MS := bindM c fun k => match k with
  | true => a
  | false => b
section
variable {X : Cx} {G : Gh} {W : WX} {rm : RM} {e : Expr} {st : Stmt} {rest : List Stmt} {pos : Pos}
theorem dss_nil : DSs X G W rm [] skipM := pss_imp pss_nil fun E σ H ⟨ρ, k, q⟩ => q σ H Stable.rfl k
theorem dss_cons {f g : MS} (h1 : DS X G W rm st f) (h2 : DSs X G W rm rest g) : DSs X G W rm (st :: rest) (seqM f g) := pss_imp (pss_cons h1 h2) fun E σ H ⟨ρ, k, q⟩ => by
  refine ⟨ρ, k, ?_⟩
  unfold seqM at q
  cases e : f ρ with
  | ok fl ρ1 =>
    rw [e] at q
    cases fl with
    | nx => exact fun σ' H' s' k' => ⟨ρ1, k', postS.from s' q⟩
    | ret d => exact q
    | brk => exact q
    | ct => exact q
  | exc c ρ1 => rw [e] at q; exact q
  | stuck => rw [e] at q; exact q
theorem dss_one {f : MS} (h1 : DS X G W rm st f) : DSs X G W rm [st] f := pss_imp (pss_one h1) fun E σ H h => h
theorem ds_set (i : Nat) {x : Str} {f : M D} {pos' : Pos} (hp : pfree G i) (hN : X.N.Nodup) (hi : X.N[i]? = some x) (hx : Loc X.env.scope x) (he : DE X G W e f) (hs : swapsWith e (some (.Name x pos')) pos.line X.env = pure false := by rfl) (hf : X.fn x = true ∨ X.env.scope.names.lookup x = some .local := by first | exact .inl rfl | exact .inr rfl | assumption) :
    DS X G W rm (.Assign [.Name x pos'] e pos) (setM i f) := ps_imp (ps_set hN hi hx he hs hf) fun E σ H ⟨ρ, k, q⟩ => ⟨ρ, k, q.bind.mono fun d ρ1 H1 _ s1 k1 q1 v r => q1 _ H1 Stable.rfl (k1.setD hp r)⟩
theorem ds_setO (i : Nat) {x : Str} {f : M (List D)} {pos' : Pos} (hp : pfree G i) (hN : X.N.Nodup) (hi : X.N[i]? = some x) (hx : Loc X.env.scope x) (he : DO X G W e f) (hs : swapsWith e (some (.Name x pos')) pos.line X.env = pure false := by rfl) (hf : X.fn x = true ∨ X.env.scope.names.lookup x = some .local := by first | exact .inl rfl | exact .inr rfl | assumption) :
    DS X G W rm (.Assign [.Name x pos'] e pos) (setOM i f) := ps_imp (ps_set hN hi hx he hs hf) fun E σ H ⟨ρ, k, q⟩ => ⟨ρ, k, q.bind.mono fun ds ρ1 H1 _ s1 k1 q1 a vs ha r f => q1 _ H1 Stable.rfl (k1.setO hp ha r f)⟩
theorem ds_expr {f : M D} (he : DE X G W e f) (hs : swapsWith e none pos.line X.env = pure false := by rfl) : DS X G W rm (.Expr e pos) (dropM f) :=
  ps_imp (ps_expr he hs) fun E σ H ⟨ρ, k, q⟩ => ⟨ρ, k, q.bind.mono fun d ρ1 H1 _ s1 k1 q1 v r => q1 _ H1 Stable.rfl k1⟩
theorem ds_ret {f : M D} (he : DE X G W e f) : DS X G W .f (.Return (some e) pos) (retM f) :=
  ps_imp (ps_ret he) fun E σ H ⟨ρ, k, q⟩ => ⟨ρ, k, q.bind.mono fun d ρ1 H1 _ s1 k1 q1 v r => q1 v σ H1 Stable.rfl k1 r⟩
/-- no container, where one may be handed back -/
def retXM (f : M D) : MS := bindM f fun d => match conOf d with
  | some _ => stuckM
  | none => fun ρ => .ok (.ret d) ρ
theorem ds_if {c : Expr} {a b : List Stmt} {t : M Bool} {f g : MS} (hc : DT X G W c t) (ha : DSs X G W rm a f) (hb : DSs X G W rm b g) : DS X G W rm (.If c a b pos) (ifM t f g) :=
  ps_imp (ps_if hc ha hb) fun E σ H ⟨ρ, k, q⟩ => ⟨ρ, k, q.bind.mono fun c ρ1 H1 _ s1 k1 q1 => by
    cases c with
    | true => rw [if_pos rfl]; exact ⟨ρ1, k1, q1⟩
    | false => rw [if_neg (by decide)]; exact ⟨ρ1, k1, q1⟩⟩

/-! ### own lists changed -/
def MtO (m : Md) (r : V → List V → Hp → VK → Prop) (g : List D → List D → Option (D × List D)) : Prop :=
  ∀ (a : Addr) (vs args : List V) (xs ds : List D) (d : D) (ys : List D) (H : Hp) (Q : VK), H a = some (.lst vs) → RepL m H vs xs → RepL m H args ds → g xs ds = some (d, ys) →
    (∀ v ws, RepL m H ws ys → Rep m H v d → Q v (upd H a (.lst ws))) → r (.ref a) args H Q
def mtO (i : Nat) (g : List D → List D → Option (D × List D)) (f : M (List D)) : M D := bindM (getO i) fun _ => bindM f fun ds => bindM (getO i) fun xs => bindM (liftM (g xs ds)) fun z => bindM (putO i z.2) fun _ => pureM z.1
theorem mtO_fin {ρ : Env} {σ : L2.St} {H : Hp} {i : Nat} {g : List D → List D → Option (D × List D)} {r : V → List V → Hp → VK → Prop} {a : Addr} {args : List V} {ds : List D} {Q : VK} (hr : MtO G.m r g) (k : StOk G σ H ρ) (h1 : σ[i]? = some (some (.ref a))) (ra : RepL G.m H args ds)
    (q : postG G W σ H ((bindM (getO i) fun xs => bindM (liftM (g xs ds)) fun z => bindM (putO i z.2) fun _ => pureM z.1) ρ) fun d _ H' => ∀ v, Rep G.m H' v d → Q v H') : r (.ref a) args H Q := by
  obtain ⟨xs, e1, q⟩ := getO_run q
  obtain ⟨a', vs, g1, g2, g3, _⟩ := k.ownL i xs e1
  rw [h1] at g1; injection g1 with g1; injection g1 with g1; injection g1 with g1
  subst g1
  obtain ⟨⟨d, ys⟩, e, q⟩ := q.bind.lift k
  refine hr a vs args xs ds d ys H Q g2 g3 ra e fun v ws rw' rv => ?_
  have st : Stable H (upd H a (.lst ws)) := Stable.upd g2 id
  exact q H Stable.rfl k _ st (k.wrote e1 h1 rw') v (rv.st st)
theorem de_bmO (i : Nat) {x name id : Str} {T idS : String} {r : V → List V → Hp → VK → Prop} {g : List D → List D → Option (D × List D)} {f : M (List D)} {es : List Expr} {pos' apos : Pos} (slot : Slot "list" name idS) (hty : typeOf (.builtin idS) = pure (.type "method_descriptor")) (hm : MtR X idS r) (hr : MtO G.m r g) (ha : DA X G W (e :: es) f)
    (hN : X.N[i]? = some x) (hv : Vis X.env.scope x := by first | exact .inl rfl | exact .inr (.inl rfl) | exact .inr (.inr rfl)) (hd : (x == ("__debug__" : Str)) = false := by decide) (hcd : (x == ("__classdict__" : Str)) = false := by decide)
    (hbase : attributeBase (.Name x pos') name X.env (eval (.Name x pos') X.env) = eval (.Name x pos') X.env := by rfl)
    (hfew : ((backTo pos (starEach (e :: es) X.env)).all (fun x => !x.1) && (backToKw pos (keywordEach [] X.env)).all (fun x => x.1.isSome)
      && decide ((e :: es).length + ([] : List Keyword).length + (if ([] : List Keyword).isEmpty then 0 else 1) < 30)) = true := by rfl)
    (hline : (apos.endLine == pos.line) = true := by rfl) (hs : starEach (e :: es) X.env = (false, eval e X.env) :: starEach es X.env := by rfl) (hplain : (backTo pos (starEach es X.env)).any (·.1) = false := by rfl) :
    DE X G W (.Call (.Attribute (.Name x pos') name apos) (e :: es) [] pos) (mtO i g f) :=
  pe_imp (pe_bm PySem.F.plainAttrs_list slot hty hm (pe_var (i := i) hN hv hd hcd) ha hbase hfew hline hs hplain) fun σ H Q ⟨ρ, k, q⟩ => by
    obtain ⟨xs0, e0, q⟩ := getO_run q
    obtain ⟨a, vs0, h1, h2, _⟩ := k.ownL i xs0 e0
    exact ⟨_, h1, .inl ⟨rfl, _, SqL.of h2⟩, ρ, k, q.bind.mono fun ds ρ1 H1 _ s1 k1 q1 vs rs => mtO_fin hr k1 h1 rs q1⟩
/-- o[k] = e, o an own list -/
def ixSet (xs : List D) (k : D) (d : D) : Option (List D) := match k with
  | .int z => (ixN xs.length z).map fun j => xs.set j d
  | _ => none
def setIM (i : Nat) (fk fe : M D) : MS := bindM fe fun d => bindM (getO i) fun _ => bindM fk fun z => bindM (getO i) fun xs => bindM (liftM (ixSet xs z d)) fun ys => bindM (putO i ys) fun _ => skipM
end
end DL
end
section
namespace DL
open PySem PySem.Spec L2
open PyProof.Rows hiding St

/-! ### defs -/
inductive FRes where
  | ok (d : D) (os : List OC) | exc (c : Str) (os : List OC) | stuck
abbrev Fn := List Sl → FRes
def isOwn : Sl → Bool
  | .cell _ => true
  | _ => false
/-- the by-reference parameters' new contents -/
def replOwn : Env → List OC → Env
  | [], _ => []
  | .cell _ :: ρ, o :: os => .cell o :: replOwn ρ os
  | .cell x :: ρ, [] => .cell x :: replOwn ρ []
  | s :: ρ, os => s :: replOwn ρ os
def collect : Env → Env → List OC
  | .cell _ :: a, .cell x :: b => x :: collect a b
  | _ :: a, _ :: b => collect a b
  | _, _ => []
structure ArgOk (m : Md) (ex : Option (Addr × Str)) (vs : List V) (H : Hp) (ρ : Env) : Prop where
  len : vs.length = ρ.length
  dat : ∀ (i : Nat) (x : D), ρ[i]? = some (.d x) → ∃ v, vs[i]? = some v ∧ Rep m H v x
  own : ∀ (i : Nat) (xs : OC), ρ[i]? = some (.cell xs) → ∃ a ws, vs[i]? = some (.ref a) ∧ H a = some ws ∧ RepO m H a ws xs
  sep : ∀ (i j : Nat) (xs ys : OC) (a : Addr), i ≠ j → ρ[i]? = some (.cell xs) → ρ[j]? = some (.cell ys) → vs[i]? = some (.ref a) → vs[j]? ≠ some (.ref a)
  exn : ∀ (i : Nat) (c : Str), ρ[i]? = some (.exn c) → ∃ a, ex = some (a, c) ∧ vs[i]? = some (.ref a)
def Keeps (vs : List V) (ρ : Env) (H H' : Hp) : Prop := ∀ a o, H a = some o → (∀ (i : Nat) (xs : OC), ρ[i]? = some (.cell xs) → vs[i]? ≠ some (.ref a)) → H' a = some o
def RetF (rm : RM) (m : Md) (H H' : Hp) (v : V) (d : D) : Prop := match rm with
  | .f => Rep m H' v d
  | .o => match conOf d with
    | some c => ∃ a o, v = .ref a ∧ H' a = some o ∧ RepO m H' a o c ∧ H a = none
    | none => Rep m H' v d
  | .t => match splitT d with
    | some z => TupOk m H' v z.1 z.2 fun b => H b = none
    | none => False
def postF (m : Md) (ex : Option (Addr × Str)) (rm : RM) (vs : List V) (ρ : Env) (H : Hp) (r : FRes) (Q : VK) (E : XK) : Prop := match r with
  | .ok d os => ∀ v H', Keeps vs ρ H H' → Stable H H' → ArgOk m ex vs H' (replOwn ρ os) → RetF rm m H H' v d → Q v H'
  | .exc c os => ∀ C H', m.mg c = some (.ref C) → Keeps vs ρ H H' → Stable H H' → ArgOk m ex vs H' (replOwn ρ os) → E (.ref C) none H'
  | .stuck => False
/-- the promise of a def: it computes f. md: which parameters are by reference; rm: a list of its own is handed back -/
def spD (m : Md) (ex : Option (Addr × Str)) (md : List Bool) (rm : RM) (f : Fn) : Sp := fun vs H Q E => ∃ ρ, ρ.map isOwn = md ∧ ArgOk m ex vs H ρ ∧ postF m ex rm vs ρ H (f ρ) Q E

/-! ### a body -/
def prOf : List V → Env → Nat → List (Nat × Addr)
  | .ref a :: vs, .cell _ :: ρ, i => (i, a) :: prOf vs ρ (i + 1)
  | _ :: vs, _ :: ρ, i => prOf vs ρ (i + 1)
  | _, _, _ => []
theorem mem_prOf : ∀ {vs : List V} {ρ : Env} {i : Nat} {p : Nat × Addr}, p ∈ prOf vs ρ i → ∃ j, p.1 = i + j ∧ vs[j]? = some (.ref p.2) ∧ ∃ xs, ρ[j]? = some (.cell xs)
  | [], ρ, i, p, h => by cases ρ <;> simp [prOf] at h
  | v :: vs, [], i, p, h => by cases v <;> simp [prOf] at h
  | v :: vs, s :: ρ, i, p, h => by
    have tl : p ∈ prOf vs ρ (i + 1) → ∃ j, p.1 = i + j ∧ (v :: vs)[j]? = some (.ref p.2) ∧ ∃ xs, (s :: ρ)[j]? = some (.cell xs) := fun h => by
      obtain ⟨j, e, h1, h2⟩ := mem_prOf h
      exact ⟨j + 1, by omega, by simpa using h1, by simpa using h2⟩
    cases v with
    | ref a =>
      cases s with
      | cell xs =>
        simp only [prOf, List.mem_cons] at h
        rcases h with h | h
        · subst h; exact ⟨0, rfl, rfl, xs, rfl⟩
        · exact tl h
      | _ => exact tl (by simpa [prOf] using h)
    | _ => exact tl (by cases s <;> simpa [prOf] using h)
theorem prOf_mem : ∀ {vs : List V} {ρ : Env} {i j : Nat} {a : Addr} {xs : OC}, vs[j]? = some (.ref a) → ρ[j]? = some (.cell xs) → (i + j, a) ∈ prOf vs ρ i
  | [], ρ, i, j, a, xs, h, _ => by simp at h
  | v :: vs, [], i, j, a, xs, _, h => by simp at h
  | v :: vs, s :: ρ, i, 0, a, xs, h1, h2 => by
    simp at h1 h2
    subst h1; subst h2
    simp [prOf]
  | v :: vs, s :: ρ, i, j + 1, a, xs, h1, h2 => by
    have q := prOf_mem (i := i + 1) (j := j) (by simpa using h1) (by simpa using h2)
    rw [show i + 1 + j = i + (j + 1) by omega] at q
    cases v with
    | ref b =>
      cases s with
      | cell ys => simp only [prOf, List.mem_cons]; exact .inr q
      | _ => simpa [prOf] using q
    | _ => cases s <;> simpa [prOf] using q
def ghOf (m : Md) (ex : Option (Addr × Str)) (vs : List V) (ρ : Env) (H : Hp) : Gh := ⟨m, H, prOf vs ρ 0, ex⟩
theorem pfree_of {m : Md} {ex : Option (Addr × Str)} {vs : List V} {ρ : Env} {H : Hp} {md : List Bool} (h : ρ.map isOwn = md) (i : Nat) (hi : md.getD i false = false) : pfree (ghOf m ex vs ρ H) i := fun p hp e => by
  obtain ⟨j, e1, _, xs, h2⟩ := mem_prOf hp
  have e2 : j = i := by omega
  subst e2
  rw [← h] at hi
  rw [List.getD_eq_getElem?_getD, List.getElem?_map, h2] at hi
  simp [isOwn] at hi
theorem start_ok {m : Md} {ex : Option (Addr × Str)} {vs : List V} {ρ : Env} {H : Hp} {n : Nat} (a : ArgOk m ex vs H ρ) : StOk (ghOf m ex vs ρ H) (vs.map some ++ List.replicate n none) H (ρ ++ List.replicate n .no) := by
  have low : ∀ (i : Nat) (s : Sl), s ≠ .no → (ρ ++ List.replicate n Sl.no)[i]? = some s → ρ[i]? = some s := fun i s hs h => by
    by_cases hi : i < ρ.length
    · rw [List.getElem?_append_left hi] at h; exact h
    · rw [List.getElem?_append_right (by omega), List.getElem?_replicate] at h
      split at h
      · cases h; exact absurd rfl hs
      · cases h
  have lv : ∀ (i : Nat) (v : V), vs[i]? = some v → (vs.map some ++ List.replicate n none)[i]? = some (some v) := fun i v h => by
    have hi : i < vs.length := (List.getElem?_eq_some_iff.mp h).1
    rw [List.getElem?_append_left (by simpa using hi), List.getElem?_map, h]; rfl
  have vl : ∀ (i : Nat) (v : V), (vs.map some ++ List.replicate n none)[i]? = some (some v) → vs[i]? = some v := fun i v h => by
    by_cases hi : i < vs.length
    · rw [List.getElem?_append_left (by simpa using hi), List.getElem?_map] at h
      cases e : vs[i]? with
      | none => rw [e] at h; cases h
      | some w => rw [e] at h; simp at h; rw [h]
    · rw [List.getElem?_append_right (by simpa using hi), List.getElem?_replicate] at h
      split at h <;> cases h
  refine ⟨by simp [a.len], fun i x h => ?_, fun i xs h => ?_, fun i j xs ys b ne h1 h2 h3 h4 => ?_, fun p hp => ?_, fun b o h _ => h, fun i c h => ?_⟩
  · obtain ⟨v, h1, h2⟩ := a.dat i x (low i _ (fun z => by cases z) h)
    exact ⟨v, lv i v h1, h2⟩
  · have h' := low i _ (fun z => by cases z) h
    obtain ⟨b, ws, h1, h2, h3⟩ := a.own i xs h'
    refine ⟨b, ws, lv i _ h1, h2, h3, fun hno => ?_⟩
    exact absurd rfl (hno (i, b) (show (i, b) ∈ prOf vs ρ 0 by simpa using prOf_mem (i := 0) h1 h'))
  · exact a.sep i j xs ys b ne (low i _ (fun z => by cases z) h1) (low j _ (fun z => by cases z) h2) (vl i _ h3) (vl j _ h4)
  · obtain ⟨j, e, h1, xs, h2⟩ := mem_prOf hp
    have e : p.1 = j := by omega
    rw [e]
    refine ⟨lv j _ h1, xs, ?_⟩
    have hj : j < ρ.length := (List.getElem?_eq_some_iff.mp h2).1
    rw [List.getElem?_append_left hj]; exact h2
  · obtain ⟨b, h1, h2⟩ := a.exn i c (low i _ (fun z => by cases z) h)
    exact ⟨b, h1, lv i _ h2⟩
theorem replOwn_len : ∀ (ρ : Env) (os : List OC), (replOwn ρ os).length = ρ.length
  | [], _ => rfl
  | s :: ρ, os => by
    cases s with
    | cell x => cases os <;> simp [replOwn, replOwn_len]
    | _ => simp [replOwn, replOwn_len]
/-- what stands at i behind collect and replOwn -/
theorem replOwn_collect : ∀ (ρ ρ' : Env) (i : Nat), (∀ j, isOwn (ρ.getD j .no) = true → isOwn (ρ'.getD j .no) = true) →
    (∀ xs, ρ[i]? = some (.cell xs) → (replOwn ρ (collect ρ ρ'))[i]? = ρ'[i]?) ∧ (∀ s, isOwn s = false → ρ[i]? = some s → (replOwn ρ (collect ρ ρ'))[i]? = some s)
  | [], ρ', i, h => ⟨fun xs e => by simp at e, fun s _ e => by simp at e⟩
  | s :: ρ, [], i, h => by
    have none : ∀ (l : Env), (∀ j, isOwn (l.getD j .no) = true → isOwn (([] : Env).getD j .no) = true) → ∀ t ∈ l, isOwn t = false := fun l hl t ht => by
      obtain ⟨j, hj, e⟩ := List.mem_iff_getElem.mp ht
      cases q : isOwn t with
      | false => rfl
      | true =>
        have z := hl j (by rw [List.getD_eq_getElem?_getD, List.getElem?_eq_getElem hj, e]; exact q)
        simp [isOwn] at z
    have all := none (s :: ρ) h
    have same : ∀ (l : Env), (∀ t ∈ l, isOwn t = false) → replOwn l [] = l := by
      intro l
      induction l with
      | nil => intro _; rfl
      | cons t l ih =>
        intro hl
        have ht := hl t List.mem_cons_self
        have := ih fun u hu => hl u (List.mem_cons_of_mem _ hu)
        cases t <;> first | (simp [replOwn, this]; done) | (simp [isOwn] at ht)
    have ce : collect (s :: ρ) [] = [] := by cases s <;> rfl
    rw [ce, same _ all]
    refine ⟨fun xs e => ?_, fun t _ e => e⟩
    have := all _ (List.mem_of_getElem? e)
    simp [isOwn] at this
  | s :: ρ, s' :: ρ', i, h => by
    have ht : ∀ j, isOwn (ρ.getD j .no) = true → isOwn (ρ'.getD j .no) = true := fun j hj => by simpa using h (j + 1) (by simpa using hj)
    have h0 : isOwn s = true → isOwn s' = true := by simpa using h 0
    have ih := replOwn_collect ρ ρ'
    cases s with
    | cell x =>
      cases s' with
      | cell y =>
        have e : replOwn (.cell x :: ρ) (collect (.cell x :: ρ) (.cell y :: ρ')) = .cell y :: replOwn ρ (collect ρ ρ') := rfl
        rw [e]
        cases i with
        | zero => exact ⟨fun xs _ => rfl, fun t ht e => by simp at e; subst e; simp [isOwn] at ht⟩
        | succ i => simpa using ih i ht
      | _ => simp [isOwn] at h0
    | no =>
      have e : replOwn (.no :: ρ) (collect (.no :: ρ) (s' :: ρ')) = .no :: replOwn ρ (collect ρ ρ') := by cases s' <;> rfl
      rw [e]
      cases i with
      | zero => exact ⟨fun xs e => by simp at e, fun t _ e => by simpa using e⟩
      | succ i => simpa using ih i ht
    | d x =>
      have e : replOwn (.d x :: ρ) (collect (.d x :: ρ) (s' :: ρ')) = .d x :: replOwn ρ (collect ρ ρ') := by cases s' <;> rfl
      rw [e]
      cases i with
      | zero => exact ⟨fun xs e => by simp at e, fun t _ e => by simpa using e⟩
      | succ i => simpa using ih i ht
    | exn x =>
      have e : replOwn (.exn x :: ρ) (collect (.exn x :: ρ) (s' :: ρ')) = .exn x :: replOwn ρ (collect ρ ρ') := by cases s' <;> rfl
      rw [e]
      cases i with
      | zero => exact ⟨fun xs e => by simp at e, fun t _ e => by simpa using e⟩
      | succ i => simpa using ih i ht
/-- behind the body: the parameters -/
theorem end_ok {m : Md} {ex : Option (Addr × Str)} {vs : List V} {ρ ρ' : Env} {H H' : Hp} {σ' : L2.St} (a : ArgOk m ex vs H ρ) (st : Stable H H') (k : StOk (ghOf m ex vs ρ H) σ' H' ρ') :
    Keeps vs ρ H H' ∧ ArgOk m ex vs H' (replOwn ρ (collect ρ ρ')) := by
  have at_ : ∀ (i : Nat) (xs : OC), ρ[i]? = some (.cell xs) → ∃ b ys ws, vs[i]? = some (.ref b) ∧ σ'[i]? = some (some (.ref b)) ∧ ρ'[i]? = some (.cell ys) ∧ H' b = some ws ∧ RepO m H' b ws ys := fun i xs h => by
    obtain ⟨b, ws0, h1, h2, h3⟩ := a.own i xs h
    have hp : (i, b) ∈ (ghOf m ex vs ρ H).pr := show (i, b) ∈ prOf vs ρ 0 by simpa using prOf_mem (i := 0) h1 h
    obtain ⟨q1, ys, q2⟩ := k.prot _ hp
    obtain ⟨b', ws, q3, q4, q5, _⟩ := k.own i ys q2
    have q1 : σ'[i]? = some (some (.ref b)) := q1
    rw [q1] at q3; injection q3 with q3; injection q3 with q3; injection q3 with q3
    subst q3
    exact ⟨b, ys, ws, h1, q1, q2, q4, q5⟩
  refine ⟨fun b o h1 h2 => k.keep b o h1 fun p hp e => ?_, ?_⟩
  · obtain ⟨j, e1, e2, xs, e3⟩ := mem_prOf hp
    rw [e] at e2
    exact h2 j xs e3 e2
  · have mono : ∀ j, isOwn (ρ.getD j .no) = true → isOwn (ρ'.getD j .no) = true := fun j hj => by
      rw [List.getD_eq_getElem?_getD] at hj ⊢
      cases e : ρ[j]? with
      | none => rw [e] at hj; simp [isOwn] at hj
      | some s =>
        rw [e] at hj
        cases s with
        | cell xs =>
          obtain ⟨b, ys, ws, _, _, h3, _⟩ := at_ j xs e
          rw [h3]; rfl
        | _ => simp [isOwn] at hj
    have rc := fun i => replOwn_collect ρ ρ' i mono
    have inv : ∀ (i : Nat) (s : Sl), (replOwn ρ (collect ρ ρ'))[i]? = some s → (isOwn s = false ∧ ρ[i]? = some s) ∨ ∃ xs ys, s = .cell ys ∧ ρ[i]? = some (.cell xs) ∧ ρ'[i]? = some (.cell ys) := fun i s h => by
      have hi : i < ρ.length := by rw [← replOwn_len ρ (collect ρ ρ')]; exact (List.getElem?_eq_some_iff.mp h).1
      obtain ⟨t, ht⟩ : ∃ t, ρ[i]? = some t := ⟨_, List.getElem?_eq_getElem hi⟩
      cases q : isOwn t with
      | false =>
        have := (rc i).2 t q ht
        rw [this] at h; cases h
        exact .inl ⟨q, ht⟩
      | true =>
        cases t with
        | cell xs =>
          obtain ⟨b, ys, ws, h1, h2, h3, _⟩ := at_ i xs ht
          rw [(rc i).1 xs ht, h3] at h; cases h
          exact .inr ⟨xs, ys, rfl, ht, h3⟩
        | _ => simp [isOwn] at q
    refine ⟨by rw [replOwn_len]; exact a.len, fun i x h => ?_, fun i xs h => ?_, fun i j xs ys b ne h1 h2 => ?_, fun i c h => ?_⟩
    · rcases inv i _ h with ⟨_, h⟩ | ⟨_, _, e, _⟩
      · obtain ⟨v, h1, h2⟩ := a.dat i x h
        exact ⟨v, h1, h2.st st⟩
      · cases e
    · rcases inv i _ h with ⟨e, _⟩ | ⟨ys, zs, e, h1, h2⟩
      · simp [isOwn] at e
      · cases e
        obtain ⟨b, us, ws, g1, g2, g3, g4, g5⟩ := at_ i ys h1
        rw [h2] at g3; cases g3
        exact ⟨b, ws, g1, g4, g5⟩
    · rcases inv i _ h1 with ⟨e, _⟩ | ⟨us, zs, e, g1, g2⟩
      · simp [isOwn] at e
      rcases inv j _ h2 with ⟨e, _⟩ | ⟨us', zs', e', g1', g2'⟩
      · simp [isOwn] at e
      exact a.sep i j us us' b ne g1 g1'
    · rcases inv i _ h with ⟨_, h⟩ | ⟨_, _, e, _⟩
      · exact a.exn i c h
      · cases e
/-- the def's function: n slots in all -/
def fnM (rm : Bool) (n : Nat) (body : MS) : Fn := fun ρ => match body (ρ ++ List.replicate (n - ρ.length) .no) with
  | .ok .nx ρ' => if rm = true then .stuck else .ok .non (collect ρ ρ')
  | .ok (.ret d) ρ' => .ok d (collect ρ ρ')
  | .exc c ρ' => .exc c (collect ρ ρ')
  | _ => .stuck
theorem body_ok {m : Md} {ex : Option (Addr × Str)} {rm : RM} {n : Nat} {body : MS} {vs : List V} {ρ : Env} {H : Hp} {Q : VK} {E : XK} {W : WX} (hW : ∀ cls d σ H, E cls d H → W cls d σ H) 
    (a : ArgOk m ex vs H ρ) (h : postF m ex rm vs ρ H (fnM rm.b n body ρ) Q E) :
    sT (ghOf m ex vs ρ H) W rm body { nx := fun _ H' => Q .non H', rt := Q } (vs.map some ++ List.replicate (n - vs.length) none) H := by
  refine ⟨ρ ++ List.replicate (n - ρ.length) .no, by rw [a.len]; exact start_ok a, ?_⟩
  unfold fnM at h
  cases e : body (ρ ++ List.replicate (n - ρ.length) .no) with
  | ok fl ρ' =>
    rw [e] at h
    cases fl with
    | nx =>
      intro σ' H' s k
      obtain ⟨k1, k2⟩ := end_ok a s k
      cases rm with
      | f => exact h .non H' k1 s k2 .non
      | o => exact h.elim
      | t => exact h.elim
    | ret d =>
      intro v σ' H' s k r
      obtain ⟨k1, k2⟩ := end_ok a s k
      refine h v H' k1 s k2 ?_
      cases rm with
      | f => exact r
      | t =>
        unfold RetOk at r
        unfold RetF
        cases u : splitT d with
        | none => simp only [u] at r
        | some z =>
          simp only [u] at r ⊢
          obtain ⟨t, us, b, o, r1, r2, r3, r4, r5, r6⟩ := r
          exact ⟨t, us, b, o, r1, r2, r3, r4, r5, r6.1⟩
      | o =>
        unfold RetOk at r
        unfold RetF
        cases c : conOf d with
        | none => simp only [c] at r ⊢; exact r
        | some c' =>
          simp only [c] at r ⊢
          obtain ⟨b, o, r1, r2, r3, r4, r5⟩ := r
          exact ⟨b, o, r1, r2, r3, r4⟩
    | brk => exact h.elim
    | ct => exact h.elim
  | exc c ρ' =>
    rw [e] at h
    intro σ' C H' e s k
    obtain ⟨k1, k2⟩ := end_ok a s k
    exact hW _ _ _ _ (h C H' e k1 s k2)
  | stuck => rw [e] at h; exact h.elim
/-- THE RULE for a def -/
theorem fn_ok {P : Program} {w : World} {K : PySem.W.Frag} {mg : Str → Option Value} {base : Heap} {k : Nat} {f : Addr} {fd : FuncData} {N ps : List Str} {x qual : Str} {params : Arguments} {body : List Stmt} {scope : Scope} {md : List Bool} {rm : RM} {bm : MS}
    (F : FunD K x qual params body scope [] [] f fd) (S : FnScope N ps scope) (hmd : md.length = ps.length)
    (D : ∀ (cdv : Value) (A : Around) (outer : List PySem.Env) (s : Shared) (H : Hp) (E : XK) (H0 : Hp) (pr : List (Nat × Addr)), (∀ i, md.getD i false = false → pfree ⟨⟨K, mg, w⟩, H0, pr, none⟩ i) → Room k (A.deeper (envOfC qual scope s.heap.objs.size f cdv)) →
      Takes (cxOf (L2.CX P w) P w K mg base N qual scope f cdv A outer s H E) (fun cls d _ H => E cls d H) → DSs (cxOf (L2.CX P w) P w K mg base N qual scope f cdv A outer s H E) ⟨⟨K, mg, w⟩, H0, pr, none⟩ (fun cls d _ H => E cls d H) rm body bm) :
    FnOk P w K mg base (L2.CX P w) (k + 1) f fd ps (spD ⟨K, mg, w⟩ none md rm (fnM rm.b N.length bm)) := by
  refine F.ok S (fun vs H Q E h => ?_) (fun cdv A outer s H vs Q E hr h => ?_)
  · obtain ⟨ρ, h1, h2, _⟩ := h
    rw [h2.len, ← hmd, ← h1, List.length_map]
  · obtain ⟨ρ, h1, h2, h3⟩ := h
    exact ⟨_, D cdv A outer s H E H (prOf vs ρ 0) (fun i hi => pfree_of (m := ⟨K, mg, w⟩) (ex := none) (H := H) h1 i hi) hr (takes_of rfl rfl rfl rfl), body_ok (fun _ _ _ _ z => z) h2 h3⟩
/-- a def that is never called -/
theorem fn_stuck {P : Program} {w : World} {K : PySem.W.Frag} {mg : Str → Option Value} {base : Heap} {CX : CXT} {k : Nat} {f : Addr} {fd : FuncData} {ps : List Str} {m : Md} {ex : Option (Addr × Str)} {md : List Bool} {rm : RM} : FnOk P w K mg base CX k f fd ps (spD m ex md rm fun _ => .stuck) :=
  ⟨fun vs H Q E ⟨_, _, _, h⟩ => h.elim, fun A outer s H args us vs Q E _ _ _ _ ⟨_, _, _, h⟩ => h.elim⟩

/-! ### calls of defs -/
inductive Ag where
  | d (x : D) | sl (i : Nat) | tmp (c : OC)
def toSl (ρ : Env) : Ag → Sl
  | .d x => .d x
  | .sl i => ρ.getD i .no
  | .tmp c => .cell c
def slots : List Ag → List Nat
  | [] => []
  | .d _ :: r => slots r
  | .sl i :: r => i :: slots r
  | .tmp _ :: r => slots r
def putBack : List Ag → List OC → Env → Env
  | [], _, ρ => ρ
  | .d _ :: r, os, ρ => putBack r os ρ
  | .tmp _ :: r, os, ρ => putBack r (os.drop 1) ρ
  | .sl i :: r, os, ρ => match ρ.getD i .no, os with
    | .cell _, o :: os' => putBack r os' (ρ.set i (.cell o))
    | _, os => putBack r os ρ
inductive AgOk (m : Md) (σ : L2.St) (H : Hp) : List V → List Ag → Prop
  | nil : AgOk m σ H [] []
  | d {v : V} {vs : List V} {x : D} {ags : List Ag} : Rep m H v x → AgOk m σ H vs ags → AgOk m σ H (v :: vs) (.d x :: ags)
  | sl {v : V} {vs : List V} {i : Nat} {ags : List Ag} : σ[i]? = some (some v) → AgOk m σ H vs ags → AgOk m σ H (v :: vs) (.sl i :: ags)
  | tmp {a : Addr} {vs : List V} {o : HO} {c : OC} {ags : List Ag} : H a = some o → RepO m H a o c → AgOk m σ H vs ags → AgOk m σ H (.ref a :: vs) (.tmp c :: ags)
theorem AgOk.len {m : Md} {σ : L2.St} {H : Hp} : ∀ {vs : List V} {ags : List Ag}, AgOk m σ H vs ags → vs.length = ags.length
  | _, _, .nil => rfl
  | _, _, .d _ k => by simp [AgOk.len k]
  | _, _, .sl _ k => by simp [AgOk.len k]
  | _, _, .tmp _ _ k => by simp [AgOk.len k]
theorem AgOk.atD {m : Md} {σ : L2.St} {H : Hp} : ∀ {vs : List V} {ags : List Ag} {p : Nat} {x : D}, AgOk m σ H vs ags → ags[p]? = some (.d x) → ∃ v, vs[p]? = some v ∧ Rep m H v x
  | _, _, p, x, .nil, h => by simp at h
  | _, _, 0, x, .d r _, h => by simp at h; subst h; exact ⟨_, rfl, r⟩
  | _, _, p + 1, x, .d _ k, h => by obtain ⟨v, h1, h2⟩ := AgOk.atD (p := p) (x := x) k (by simpa using h); exact ⟨v, by simpa using h1, h2⟩
  | _, _, 0, x, .sl _ _, h => by simp at h
  | _, _, p + 1, x, .sl _ k, h => by obtain ⟨v, h1, h2⟩ := AgOk.atD (p := p) (x := x) k (by simpa using h); exact ⟨v, by simpa using h1, h2⟩
  | _, _, 0, x, .tmp _ _ _, h => by simp at h
  | _, _, p + 1, x, .tmp _ _ k, h => by obtain ⟨v, h1, h2⟩ := AgOk.atD (p := p) (x := x) k (by simpa using h); exact ⟨v, by simpa using h1, h2⟩
theorem AgOk.atS {m : Md} {σ : L2.St} {H : Hp} : ∀ {vs : List V} {ags : List Ag} {p i : Nat}, AgOk m σ H vs ags → ags[p]? = some (.sl i) → ∃ v, vs[p]? = some v ∧ σ[i]? = some (some v)
  | _, _, p, x, .nil, h => by simp at h
  | _, _, 0, x, .sl r _, h => by simp at h; subst h; exact ⟨_, rfl, r⟩
  | _, _, p + 1, x, .d _ k, h => by obtain ⟨v, h1, h2⟩ := AgOk.atS (p := p) (i := x) k (by simpa using h); exact ⟨v, by simpa using h1, h2⟩
  | _, _, 0, x, .d _ _, h => by simp at h
  | _, _, p + 1, x, .sl _ k, h => by obtain ⟨v, h1, h2⟩ := AgOk.atS (p := p) (i := x) k (by simpa using h); exact ⟨v, by simpa using h1, h2⟩
  | _, _, 0, x, .tmp _ _ _, h => by simp at h
  | _, _, p + 1, x, .tmp _ _ k, h => by obtain ⟨v, h1, h2⟩ := AgOk.atS (p := p) (i := x) k (by simpa using h); exact ⟨v, by simpa using h1, h2⟩
theorem AgOk.atT {m : Md} {σ : L2.St} {H : Hp} : ∀ {vs : List V} {ags : List Ag} {p : Nat} {c : OC}, AgOk m σ H vs ags → ags[p]? = some (.tmp c) → ∃ a o, vs[p]? = some (.ref a) ∧ H a = some o ∧ RepO m H a o c
  | _, _, p, x, .nil, h => by simp at h
  | _, _, 0, x, .d _ _, h => by simp at h
  | _, _, p + 1, x, .d _ k, h => by obtain ⟨a, o, h1, h2⟩ := AgOk.atT (p := p) (c := x) k (by simpa using h); exact ⟨a, o, by simpa using h1, h2⟩
  | _, _, 0, x, .sl _ _, h => by simp at h
  | _, _, p + 1, x, .sl _ k, h => by obtain ⟨a, o, h1, h2⟩ := AgOk.atT (p := p) (c := x) k (by simpa using h); exact ⟨a, o, by simpa using h1, h2⟩
  | _, _, 0, x, .tmp e r _, h => by simp at h; subst h; exact ⟨_, _, rfl, e, r⟩
  | _, _, p + 1, x, .tmp _ _ k, h => by obtain ⟨a, o, h1, h2⟩ := AgOk.atT (p := p) (c := x) k (by simpa using h); exact ⟨a, o, by simpa using h1, h2⟩
/-- temporary containers stand apart -/
def FrAg (G : Gh) (σ : L2.St) (ρ : Env) (vs : List V) (ags : List Ag) : Prop := (∀ (p : Nat) (c : OC) (a : Addr), ags[p]? = some (.tmp c) → vs[p]? = some (.ref a) → Fresh G σ ρ a) ∧
  ∀ (p q : Nat) (c c' : OC) (a : Addr), p ≠ q → ags[p]? = some (.tmp c) → ags[q]? = some (.tmp c') → vs[p]? = some (.ref a) → vs[q]? ≠ some (.ref a)
theorem FrAg.nil {G : Gh} {σ : L2.St} {ρ : Env} : FrAg G σ ρ [] [] := ⟨fun p c a h => by simp at h, fun p q c c' a _ h => by simp at h⟩
theorem FrAg.cons {G : Gh} {σ : L2.St} {ρ : Env} {v : V} {vs : List V} {g : Ag} {ags : List Ag} (hg : ∀ c, g ≠ .tmp c) (f : FrAg G σ ρ vs ags) : FrAg G σ ρ (v :: vs) (g :: ags) := by
  refine ⟨fun p c a h1 h2 => ?_, fun p q c c' a ne h1 h2 h3 => ?_⟩
  · cases p with
    | zero => simp at h1; exact absurd h1 (hg c)
    | succ p => exact f.1 p c a (by simpa using h1) (by simpa using h2)
  · cases p with
    | zero => simp at h1; exact absurd h1 (hg c)
    | succ p =>
      cases q with
      | zero => simp at h2; exact absurd h2 (hg c')
      | succ q => simpa using f.2 p q c c' a (by omega) (by simpa using h1) (by simpa using h2) (by simpa using h3)
theorem FrAg.tmp {G : Gh} {σ : L2.St} {ρ : Env} {b : Addr} {vs : List V} {c0 : OC} {ags : List Ag} (fb : Fresh G σ ρ b) (hn : ∀ (p : Nat) (c : OC), ags[p]? = some (.tmp c) → vs[p]? ≠ some (.ref b)) (f : FrAg G σ ρ vs ags) : FrAg G σ ρ (.ref b :: vs) (.tmp c0 :: ags) := by
  refine ⟨fun p c a h1 h2 => ?_, fun p q c c' a ne h1 h2 h3 => ?_⟩
  · cases p with
    | zero => simp at h2; subst h2; exact fb
    | succ p => exact f.1 p c a (by simpa using h1) (by simpa using h2)
  · cases p with
    | zero =>
      cases q with
      | zero => exact absurd rfl ne
      | succ q => simp at h3; subst h3; simpa using hn q c' (by simpa using h2)
    | succ p =>
      cases q with
      | zero => simp; intro z; subst z; exact hn p c (by simpa using h1) (by simpa using h3)
      | succ q => simpa using f.2 p q c c' a (by omega) (by simpa using h1) (by simpa using h2) (by simpa using h3)
theorem slots_mem : ∀ {ags : List Ag} {p i : Nat}, ags[p]? = some (.sl i) → i ∈ slots ags
  | [], p, i, h => by simp at h
  | a :: r, 0, i, h => by simp at h; subst h; simp [slots]
  | a :: r, p + 1, i, h => by
    have := slots_mem (p := p) (i := i) (ags := r) (by simpa using h)
    cases a <;> simp [slots, this]
theorem slots_inj : ∀ {ags : List Ag} {p q i : Nat}, (slots ags).Nodup → ags[p]? = some (.sl i) → ags[q]? = some (.sl i) → p = q
  | [], p, q, i, _, h, _ => by simp at h
  | a :: r, 0, 0, i, _, _, _ => rfl
  | a :: r, 0, q + 1, i, nd, h1, h2 => by
    simp at h1; subst h1
    have := slots_mem (p := q) (i := i) (ags := r) (by simpa using h2)
    simp [slots] at nd
    exact absurd this nd.1
  | a :: r, p + 1, 0, i, nd, h1, h2 => by
    simp at h2; subst h2
    have := slots_mem (p := p) (i := i) (ags := r) (by simpa using h1)
    simp [slots] at nd
    exact absurd this nd.1
  | a :: r, p + 1, q + 1, i, nd, h1, h2 => by
    have nd' : (slots r).Nodup := by cases a <;> simp [slots] at nd <;> first | exact nd | exact nd.2
    rw [slots_inj (p := p) (q := q) (i := i) nd' (by simpa using h1) (by simpa using h2)]
/-- what putBack does, slot by slot -/
theorem putBack_spec : ∀ (ags : List Ag) (os : List OC) (ρ : Env), (slots ags).Nodup →
    (putBack ags os ρ).length = ρ.length ∧
    (∀ (j : Nat), (j ∉ slots ags ∨ isOwn (ρ.getD j .no) = false) → (putBack ags os ρ)[j]? = ρ[j]?) ∧
    (∀ (p j : Nat) (xs : OC), ags[p]? = some (Ag.sl j) → ρ[j]? = some (.cell xs) → ∃ ys, (putBack ags os ρ)[j]? = some (.cell ys) ∧ (replOwn (ags.map (toSl ρ)) os)[p]? = some (.cell ys))
  | [], os, ρ, _ => ⟨rfl, fun _ _ => rfl, fun p j xs h => by simp at h⟩
  | .d x :: r, os, ρ, nd => by
    obtain ⟨h0, h1, h2⟩ := putBack_spec r os ρ nd
    refine ⟨h0, h1, fun p j xs e1 e2 => ?_⟩
    cases p with
    | zero => simp at e1
    | succ p =>
      obtain ⟨ys, q1, q2⟩ := h2 p j xs (by simpa using e1) e2
      exact ⟨ys, q1, by simpa [toSl, replOwn] using q2⟩
  | .tmp c :: r, os, ρ, nd => by
    obtain ⟨h0, h1, h2⟩ := putBack_spec r (os.drop 1) ρ nd
    refine ⟨h0, h1, fun p j xs e1 e2 => ?_⟩
    cases p with
    | zero => simp at e1
    | succ p =>
      obtain ⟨ys, q1, q2⟩ := h2 p j xs (by simpa using e1) e2
      refine ⟨ys, q1, ?_⟩
      cases os with
      | nil => simpa [toSl, replOwn] using q2
      | cons o os => simpa [toSl, replOwn] using q2
  | .sl i :: r, os, ρ, nd => by
    have ndr : (slots r).Nodup := by simp [slots] at nd; exact nd.2
    have nir : i ∉ slots r := by simp [slots] at nd; exact nd.1
    cases e : ρ.getD i .no with
    | cell xs0 =>
      have ei : ρ[i]? = some (.cell xs0) := by
        rw [List.getD_eq_getElem?_getD] at e
        cases q : ρ[i]? with
        | none => rw [q] at e; cases e
        | some s => rw [q] at e; simpa using e
      have hi : i < ρ.length := (List.getElem?_eq_some_iff.mp ei).1
      cases os with
      | nil =>
        have pe : putBack (.sl i :: r) [] ρ = putBack r [] ρ := by simp only [putBack, e]
        rw [pe]
        obtain ⟨h0, h1, h2⟩ := putBack_spec r [] ρ ndr
        refine ⟨h0, fun j hj => h1 j ?_, fun p j xs e1 e2 => ?_⟩
        · rcases hj with hj | hj
          · exact .inl fun z => hj (by simp [slots, z])
          · exact .inr hj
        · cases p with
          | zero =>
            simp at e1; subst e1
            refine ⟨xs, by rw [h1 i (.inl nir)]; exact e2, ?_⟩
            rw [ei] at e2; cases e2
            simp only [List.map_cons, toSl, e, replOwn, List.getElem?_cons_zero]
          | succ p =>
            obtain ⟨ys, q1, q2⟩ := h2 p j xs (by simpa using e1) e2
            exact ⟨ys, q1, by rw [List.map_cons]; simp only [toSl, e, replOwn, List.getElem?_cons_succ]; exact q2⟩
      | cons o os =>
        have pe : putBack (.sl i :: r) (o :: os) ρ = putBack r os (ρ.set i (.cell o)) := by simp only [putBack, e]
        rw [pe]
        obtain ⟨h0, h1, h2⟩ := putBack_spec r os (ρ.set i (.cell o)) ndr
        refine ⟨by rw [h0, List.length_set], fun j hj => ?_, fun p j xs e1 e2 => ?_⟩
        · have ne : i ≠ j := fun z => by
            subst z
            rcases hj with hj | hj
            · exact hj (by simp [slots])
            · rw [e] at hj; simp [isOwn] at hj
          rw [h1 j ?_, List.getElem?_set_ne ne]
          rcases hj with hj | hj
          · exact .inl fun z => hj (by simp [slots, z])
          · refine .inr ?_
            rw [List.getD_eq_getElem?_getD, List.getElem?_set_ne ne, ← List.getD_eq_getElem?_getD]; exact hj
        · cases p with
          | zero =>
            simp at e1; subst e1
            refine ⟨o, by rw [h1 i (.inl nir), List.getElem?_set_self hi], ?_⟩
            simp only [List.map_cons, toSl, e, replOwn, List.getElem?_cons_zero]
          | succ p =>
            have e1' : r[p]? = some (.sl j) := by simpa using e1
            have ne : i ≠ j := fun z => nir (by rw [z]; exact slots_mem e1')
            obtain ⟨ys, q1, q2⟩ := h2 p j xs e1' (by rw [List.getElem?_set_ne ne]; exact e2)
            refine ⟨ys, q1, ?_⟩
            have em : r.map (toSl (ρ.set i (.cell o))) = r.map (toSl ρ) := List.map_congr_left fun a ha => by
              cases a with
              | d x => rfl
              | tmp c => rfl
              | sl k =>
                have nk : i ≠ k := fun z => by
                  subst z
                  obtain ⟨q, hq, e3⟩ := List.mem_iff_getElem.mp ha
                  exact nir (slots_mem (p := q) (by rw [List.getElem?_eq_getElem hq, e3]))
                show (ρ.set i (.cell o)).getD k .no = ρ.getD k .no
                rw [List.getD_eq_getElem?_getD, List.getElem?_set_ne nk, ← List.getD_eq_getElem?_getD]
            rw [em] at q2
            rw [List.map_cons]; simp only [toSl, e, replOwn, List.getElem?_cons_succ]; exact q2
    | _ =>
      have pe : putBack (.sl i :: r) os ρ = putBack r os ρ := by simp only [putBack, e]
      rw [pe]
      obtain ⟨h0, h1, h2⟩ := putBack_spec r os ρ ndr
      refine ⟨h0, fun j hj => ?_, fun p j xs e1 e2 => ?_⟩
      · by_cases z : j ∈ slots r
        · refine h1 j (.inr ?_)
          rcases hj with hj | hj
          · exact absurd (by simp [slots, z]) hj
          · exact hj
        · exact h1 j (.inl z)
      · cases p with
        | zero =>
          simp at e1; subst e1
          rw [List.getD_eq_getElem?_getD, e2] at e
          simp at e
        | succ p =>
          obtain ⟨ys, q1, q2⟩ := h2 p j xs (by simpa using e1) e2
          exact ⟨ys, q1, by rw [List.map_cons]; simp only [toSl, e, replOwn, List.getElem?_cons_succ]; exact q2⟩
end DL
end
section
namespace DL
open PySem PySem.Spec L2
open PyProof.Rows hiding St

theorem slots_at {i : Nat} : ∀ {ags : List Ag}, i ∈ slots ags → ∃ p : Nat, ags[p]? = some (Ag.sl i)
  | [], h => by simp [slots] at h
  | .d x :: l, h => by
    obtain ⟨p, hp⟩ := slots_at (ags := l) (by simpa [slots] using h)
    exact ⟨p + 1, by simpa using hp⟩
  | .tmp x :: l, h => by
    obtain ⟨p, hp⟩ := slots_at (ags := l) (by simpa [slots] using h)
    exact ⟨p + 1, by simpa using hp⟩
  | .sl j :: l, h => by
    simp only [slots, List.mem_cons] at h
    rcases h with rfl | h
    · exact ⟨0, rfl⟩
    · obtain ⟨p, hp⟩ := slots_at h
      exact ⟨p + 1, by simpa using hp⟩
theorem putBack_own {ags : List Ag} {os : List OC} {ρ : DL.Env} (nd : (slots ags).Nodup) {j : Nat} {ys : OC} (h : (putBack ags os ρ)[j]? = some (.cell ys)) : ∃ xs, ρ[j]? = some (.cell xs) := by
  obtain ⟨h0, h1, h2⟩ := putBack_spec ags os ρ nd
  by_cases hj : j ∈ slots ags ∧ isOwn (ρ.getD j .no) = true
  · have ho := hj.2
    rw [List.getD_eq_getElem?_getD] at ho
    cases q : ρ[j]? with
    | none => rw [q] at ho; simp [isOwn] at ho
    | some s =>
      rw [q] at ho
      cases s with
      | cell xs => exact ⟨xs, rfl⟩
      | _ => simp [isOwn] at ho
  · have hj : j ∉ slots ags ∨ isOwn (ρ.getD j .no) = false := by
      by_cases a : j ∈ slots ags
      · right
        cases b : isOwn (ρ.getD j .no) with
        | false => rfl
        | true => exact absurd ⟨a, b⟩ hj
      · exact .inl a
    exact ⟨ys, by rw [← h1 j hj]; exact h⟩
/-- the caller's state behind a call -/
theorem after_call {G : Gh} {σ : L2.St} {H H' : Hp} {ρ : DL.Env} {vs : List V} {ags : List Ag} {os : List OC} (k : StOk G σ H ρ) (r : AgOk G.m σ H vs ags) (fr : FrAg G σ ρ vs ags) (nd : (slots ags).Nodup) (kp : Keeps vs (ags.map (toSl ρ)) H H') (st : Stable H H')
    (a : ArgOk G.m G.ex vs H' (replOwn (ags.map (toSl ρ)) os)) : StOk G σ H' (putBack ags os ρ) := by
  obtain ⟨h0, h1, h2⟩ := putBack_spec ags os ρ nd
  have gd : ∀ {j : Nat} {s : Sl}, ρ[j]? = some s → ρ.getD j .no = s := fun {j s} h => by rw [List.getD_eq_getElem?_getD, h]; rfl
  -- a slot is an own argument's, or as it was
  have cases_ : ∀ (j : Nat), (putBack ags os ρ)[j]? = ρ[j]? ∨ ∃ (p : Nat) (xs ys : OC), ags[p]? = some (.sl j) ∧ ρ[j]? = some (.cell xs) ∧ (putBack ags os ρ)[j]? = some (.cell ys) ∧ (replOwn (ags.map (toSl ρ)) os)[p]? = some (.cell ys) := fun j => by
    by_cases hj : j ∈ slots ags
    · cases ho : isOwn (ρ.getD j .no) with
      | false => exact .inl (h1 j (.inr ho))
      | true =>
        have e : ∃ xs, ρ[j]? = some (.cell xs) := by
          rw [List.getD_eq_getElem?_getD] at ho
          cases q : ρ[j]? with
          | none => rw [q] at ho; simp [isOwn] at ho
          | some s =>
            rw [q] at ho
            cases s with
            | cell xs => exact ⟨xs, rfl⟩
            | _ => simp [isOwn] at ho
        obtain ⟨xs, e⟩ := e
        have ex := slots_at hj
        obtain ⟨p, hp⟩ := ex
        obtain ⟨ys, q1, q2⟩ := h2 p j xs hp e
        exact .inr ⟨p, xs, ys, hp, e, q1, q2⟩
    · exact .inl (h1 j (.inl hj))
  have own0 : ∀ (j : Nat) (ys : OC), (putBack ags os ρ)[j]? = some (.cell ys) → ∃ xs, ρ[j]? = some (.cell xs) := fun j ys h => by
    rcases cases_ j with e | ⟨p, xs, _, _, e, _⟩
    · exact ⟨ys, by rw [← e]; exact h⟩
    · exact ⟨xs, e⟩
  have notarg : ∀ (b : Addr), (∀ (j : Nat) (xs : OC), ρ[j]? = some (.cell xs) → j ∈ slots ags → σ[j]? ≠ some (some (.ref b))) → (∀ a, Fresh G σ ρ a → a ≠ b) → ∀ (p : Nat) (xs : OC), (ags.map (toSl ρ))[p]? = some (.cell xs) → vs[p]? ≠ some (.ref b) := fun b hb hb2 p xs hp hv => by
    rw [List.getElem?_map] at hp
    cases q : ags[p]? with
    | none => rw [q] at hp; cases hp
    | some ag =>
      rw [q] at hp
      cases ag with
      | d x => simp [toSl] at hp
      | tmp c => exact hb2 b (fr.1 p c b q hv) rfl
      | sl i =>
        have hp : ρ.getD i .no = .cell xs := by simpa [toSl] using hp
        obtain ⟨v, e1, e2⟩ := r.atS q
        rw [hv] at e1; cases e1
        have ei : ρ[i]? = some (.cell xs) := by
          rw [List.getD_eq_getElem?_getD] at hp
          cases z : ρ[i]? with
          | none => rw [z] at hp; cases hp
          | some s => rw [z] at hp; simpa using hp
        exact hb i xs ei (slots_mem q) e2
  refine ⟨by rw [k.len, h0], fun j x h => ?_, fun j ys h => ?_, fun i j xs ys b ne e1 e2 e3 => ?_, fun p hp => ?_, fun b o e1 e2 => ?_, fun j c h => ?_⟩
  · rcases cases_ j with e | ⟨p, xs, ys, _, _, e, _⟩
    · obtain ⟨v, q1, q2⟩ := k.dat j x (by rw [← e]; exact h)
      exact ⟨v, q1, q2.st st⟩
    · rw [e] at h; cases h
  · rcases cases_ j with e | ⟨p, xs, zs, e1, e2, e3, e4⟩
    · have hj : ρ[j]? = some (.cell ys) := by rw [← e]; exact h
      by_cases hs : j ∈ slots ags
      · -- it is an argument, and stands as it stood
        obtain ⟨p, hp⟩ := slots_at hs
        obtain ⟨zs, q1, q2⟩ := h2 p j ys hp hj
        rw [h] at q1; cases q1
        obtain ⟨b, ws0, g1, g2, g3, g4⟩ := k.own j ys hj
        obtain ⟨b', ws, g5, g6, g7⟩ := a.own p ys q2
        obtain ⟨v, e5, e6⟩ := r.atS hp
        rw [g5] at e5; cases e5
        rw [g1] at e6; cases e6
        exact ⟨b, ws, g1, g6, g7, g4⟩
      · obtain ⟨b, ws, g1, g2, g3, g4⟩ := k.own j ys hj
        refine ⟨b, ws, g1, kp b _ g2 (notarg b (fun i xs hi hm z => ?_) fun a fa e => fa.2.2 j ys hj (by rw [e]; exact g1)), g3.st st, g4⟩
        have ne : i ≠ j := fun w => by subst w; exact hs hm
        exact k.sep i j xs ys b ne hi hj z g1
    · rw [h] at e3; cases e3
      obtain ⟨b, ws0, g1, g2, g3, g4⟩ := k.own j xs e2
      obtain ⟨b', ws, g5, g6, g7⟩ := a.own p ys e4
      obtain ⟨v, e5, e6⟩ := r.atS e1
      rw [g5] at e5; cases e5
      rw [g1] at e6; cases e6
      exact ⟨b, ws, g1, g6, g7, g4⟩
  · obtain ⟨u1, o1⟩ := own0 i xs e1
    obtain ⟨u2, o2⟩ := own0 j ys e2
    exact k.sep i j u1 u2 b ne o1 o2 e3
  · obtain ⟨q1, xs, q2⟩ := k.prot p hp
    refine ⟨q1, ?_⟩
    rcases cases_ p.1 with e | ⟨_, _, ys, _, _, e, _⟩
    · exact ⟨xs, by rw [e]; exact q2⟩
    · exact ⟨ys, e⟩
  · refine kp b o (k.keep b o e1 e2) (notarg b (fun i xs hi _ z => ?_) fun a fa e => by subst e; rw [fa.1] at e1; cases e1)
    obtain ⟨b', ws, g1, _, _, g4⟩ := k.own i xs hi
    rw [z] at g1; cases g1
    by_cases c : ∀ p ∈ G.pr, p.1 ≠ i
    · have q := (g4 c).1
      rw [e1] at q; cases q
    · apply c
      intro p hp w
      obtain ⟨q1, _⟩ := k.prot p hp
      rw [w, z] at q1
      injection q1 with q1; injection q1 with q1; injection q1 with q1
      exact e2 p hp q1.symm
  · rcases cases_ j with e | ⟨p, xs, ys, _, _, e, _⟩
    · exact k.exn j c (by rw [← e]; exact h)
    · rw [e] at h; cases h

/-! ### arguments of a def's call -/
def gT (G : Gh) (W : WX) (f : M (List Ag)) : TA := fun σ H Q => ∃ ρ, StOk G σ H ρ ∧ postG G W σ H (f ρ) fun ags ρ' H' => ∀ vs, AgOk G.m σ H' vs ags → FrAg G σ ρ' vs ags → Q vs H'
def DG (X : Cx) (G : Gh) (W : WX) (es : List Expr) (f : M (List Ag)) : Prop := PA X es (gT G W f)
def consA (f : M D) (g : M (List Ag)) : M (List Ag) := bindM f fun x => bindM g fun r => pureM (.d x :: r)
def consS (i : Nat) (g : M (List Ag)) : M (List Ag) := bindM g fun r => pureM (.sl i :: r)
/-- ags to a call -/
def callM (f : Fn) (fa : M (List Ag)) : M D := bindM fa fun ags ρ => if (slots ags).Nodup then (match f (ags.map (toSl ρ)) with
  | .ok d os => .ok d (putBack ags os ρ)
  | .exc c os => .exc c (putBack ags os ρ)
  | .stuck => .stuck) else .stuck
def callL (f : Fn) (fa : M (List Ag)) : M (List D) := bindM (callM f fa) fun d => match d with
  | .lst ds => pureM ds
  | _ => stuckM
section
variable {X : Cx} {G : Gh} {W : WX} {e : Expr} {es : List Expr} {pos : Pos}
theorem dg_nil : DG X G W [] (pureM []) := pa_imp pa_nil fun σ H Q ⟨ρ, k, q⟩ => q H Stable.rfl k _ .nil .nil
theorem dg_d {f : M D} {g : M (List Ag)} (ha : DE X G W e f) (hr : DG X G W es g) (hs : starEach (e :: es) X.env = (false, eval e X.env) :: starEach es X.env := by rfl) : DG X G W (e :: es) (consA f g) :=
  pa_imp (pa_cons ha hr hs) fun σ H Q ⟨ρ, k, q⟩ => ⟨ρ, k, q.bind.mono fun x ρ1 H1 _ s1 k1 q1 v r => ⟨ρ1, k1, q1.bind.mono fun xs ρ2 H2 _ s2 k2 q2 vs rs fs => q2 H2 Stable.rfl k2 _ (.d (r.st s2) rs) (fs.cons fun c z => by cases z)⟩⟩
/-- the slot is own (or the handled exception) when the call comes -/
def haveS (i : Nat) : M Unit := fun ρ => match ρ[i]? with
  | some (.cell _) => .ok () ρ
  | some (.exn _) => .ok () ρ
  | _ => .stuck
/-- the arguments as the callee meets them -/
theorem ag_arg {σ : L2.St} {H : Hp} {ρ : DL.Env} {vs : List V} {ags : List Ag} (k : StOk G σ H ρ) (r : AgOk G.m σ H vs ags) (fr : FrAg G σ ρ vs ags) (nd : (slots ags).Nodup) : ArgOk G.m G.ex vs H (ags.map (toSl ρ)) := by
  have at_ : ∀ (i : Nat) (s : Sl), s ≠ .no → (ags.map (toSl ρ))[i]? = some s → (∃ x, s = .d x ∧ ags[i]? = some (.d x)) ∨ (∃ j, ags[i]? = some (.sl j) ∧ ρ[j]? = some s) ∨ ∃ c, s = .cell c ∧ ags[i]? = some (.tmp c) := fun i s hs h => by
    rw [List.getElem?_map] at h
    cases q : ags[i]? with
    | none => rw [q] at h; cases h
    | some ag =>
      rw [q] at h
      cases ag with
      | d x => simp [toSl] at h; exact .inl ⟨x, h.symm, rfl⟩
      | tmp c => simp [toSl] at h; exact .inr (.inr ⟨c, h.symm, rfl⟩)
      | sl j =>
        refine .inr (.inl ⟨j, rfl, ?_⟩)
        have h : ρ.getD j .no = s := by simpa [toSl] using h
        rw [List.getD_eq_getElem?_getD] at h
        cases z : ρ[j]? with
        | none => rw [z] at h; exact absurd h.symm hs
        | some t => rw [z] at h; simpa using h
  refine ⟨by rw [List.length_map]; exact r.len, fun i x h => ?_, fun i xs h => ?_, fun i j xs ys a ne h1 h2 h3 h4 => ?_, fun i c h => ?_⟩
  · rcases at_ i _ (fun z => by cases z) h with ⟨y, e, q⟩ | ⟨j, q, e⟩ | ⟨c, e, _⟩
    · cases e; exact r.atD q
    rotate_left
    · cases e
    · obtain ⟨v, e1, e2⟩ := r.atS q
      obtain ⟨w, e3, e4⟩ := k.dat j x e
      rw [e2] at e3; cases e3
      exact ⟨v, e1, e4⟩
  · rcases at_ i _ (fun z => by cases z) h with ⟨y, e, q⟩ | ⟨j, q, e⟩ | ⟨c, e, q⟩
    · cases e
    · obtain ⟨v, e1, e2⟩ := r.atS q
      obtain ⟨a, ws, e3, e4, e5, _⟩ := k.own j xs e
      rw [e2] at e3; cases e3
      exact ⟨a, ws, e1, e4, e5⟩
    · cases e; exact r.atT q
  · rcases at_ i _ (fun z => by cases z) h1 with ⟨y, e, q⟩ | ⟨i', q, e⟩ | ⟨c, e, q⟩
    · cases e
    · rcases at_ j _ (fun z => by cases z) h2 with ⟨y, e', q'⟩ | ⟨j', q', e'⟩ | ⟨c', e', q'⟩
      · cases e'
      · obtain ⟨v, e1, e2⟩ := r.atS q
        obtain ⟨v', e1', e2'⟩ := r.atS q'
        rw [h3] at e1; cases e1
        rw [h4] at e1'; cases e1'
        have ne' : i' ≠ j' := fun z => by subst z; exact ne (slots_inj nd q q')
        exact k.sep i' j' xs ys a ne' e e' e2 e2'
      · obtain ⟨v, e1, e2⟩ := r.atS q
        rw [h3] at e1; cases e1
        exact (fr.1 j c' a q' h4).2.2 i' xs e e2
    · rcases at_ j _ (fun z => by cases z) h2 with ⟨y, e', q'⟩ | ⟨j', q', e'⟩ | ⟨c', e', q'⟩
      · cases e'
      · obtain ⟨v', e1', e2'⟩ := r.atS q'
        rw [h4] at e1'; cases e1'
        exact (fr.1 i c a q h3).2.2 j' ys e' e2'
      · exact fr.2 i j c c' a ne q q' h3 h4
  · rcases at_ i _ (fun z => by cases z) h with ⟨y, e, q⟩ | ⟨j, q, e⟩ | ⟨c', e, _⟩
    · cases e
    rotate_left
    · cases e
    · obtain ⟨v, e1, e2⟩ := r.atS q
      obtain ⟨a, e3, e4⟩ := k.exn j c e
      rw [e2] at e4; cases e4
      exact ⟨a, e3, e1⟩
theorem call_run {md : List Bool} {rm : RM} {f : Fn} {σ : L2.St} {H : Hp} {ρ : DL.Env} {vs : List V} {ags : List Ag} {Q : VK} {R : D → DL.Env → Hp → Prop} (hex : G.ex = none) (k : StOk G σ H ρ) (r : AgOk G.m σ H vs ags) (fr : FrAg G σ ρ vs ags) (hmd : ∀ ρ', ρ' = ags.map (toSl ρ) → ρ'.map isOwn = md)
    (q : postG G W σ H (if (slots ags).Nodup then (match f (ags.map (toSl ρ)) with
      | .ok d os => .ok d (putBack ags os ρ)
      | .exc c os => .exc c (putBack ags os ρ)
      | .stuck => .stuck) else .stuck) R) (hQ : ∀ d ρ' v H', Stable H H' → StOk G σ H' ρ' → (∀ (i : Nat) ys, ρ'[i]? = some (Sl.cell ys) → ∃ xs, ρ[i]? = some (Sl.cell xs)) → RetF rm G.m H H' v d → R d ρ' H' → Q v H') : spD G.m none md rm f vs H Q (WE W σ) := by
  by_cases nd : (slots ags).Nodup
  · rw [if_pos nd] at q
    refine ⟨ags.map (toSl ρ), hmd _ rfl, by have := ag_arg k r fr nd; rw [hex] at this; exact this, ?_⟩
    cases e : f (ags.map (toSl ρ)) with
    | ok d os =>
      rw [e] at q
      intro v H' kp st a rf
      have k' := after_call k r fr nd kp st (by rw [hex]; exact a)
      exact hQ d _ v H' st k' (fun i ys h => putBack_own nd h) rf (q H' st k')
    | exc c os =>
      rw [e] at q
      intro C H' e kp st a
      have k' := after_call k r fr nd kp st (by rw [hex]; exact a)
      exact q C H' e st k'
    | stuck => rw [e] at q; exact q.elim
  · rw [if_neg nd] at q; exact q.elim
/-- which slots the arguments hand on by reference: a check -/
def mdM (md : List Bool) (fa : M (List Ag)) : M (List Ag) := bindM fa fun ags ρ => if (ags.map (toSl ρ)).map isOwn = md then .ok ags ρ else .stuck
variable {CX : CXT} {kk : Nat} {fA : Addr} {fd : FuncData} {ps : List Str} {md : List Bool} {f : Fn} {x : Str} {p : Pos}
theorem mdM_run {fa : M (List Ag)} {σ : L2.St} {H : Hp} {ρ : DL.Env} {β : Type} {kf : List Ag → M β} {R : β → DL.Env → Hp → Prop} (q : postG G W σ H (bindM (mdM md fa) kf ρ) R) :
    postG G W σ H (fa ρ) fun ags ρ1 H1 => (ags.map (toSl ρ1)).map isOwn = md ∧ postG G W σ H1 (kf ags ρ1) R := by
  unfold mdM bindM at q
  cases e : fa ρ with
  | ok ags ρ1 =>
    rw [e] at q
    by_cases h : (ags.map (toSl ρ1)).map isOwn = md
    · intro H1 s1 k1
      refine ⟨h, ?_⟩
      simp only [h, if_true] at q
      exact postG.from s1 q
    · simp only [h, if_false] at q; exact q.elim
  | exc c ρ1 => rw [e] at q; exact q
  | stuck => rw [e] at q; exact q
theorem de_call {fa : M (List Ag)} (hex : G.ex = none) (hm0 : G.m = ⟨X.K, X.mg, X.w⟩) (tk : Takes X W) (F : FnOk X.prog X.w X.K X.mg X.base (L2.CX X.prog X.w) kk fA fd ps (spD ⟨X.K, X.mg, X.w⟩ none md .f f)) (hr : Room kk X.A) (hg : Gl X x) (hm : X.mg x = some (.ref fA)) (hk : PySem.W.keepIn X.K (.ref fA) = true) (hb : Binds X.K fd ps [])
    (ha : DG X G W (e :: es) fa) (hdb : (x == ("__debug__" : Str)) = false := by decide) (he : starEach (e :: es) X.env = (false, eval e X.env) :: starEach es X.env := by rfl) (hpl : (backTo pos (starEach es X.env)).any (·.1) = false := by rfl) :
    DE X G W (.Call (.Name x p) (e :: es) [] pos) (callM f (mdM md fa)) :=
  pe_imp (pe_callS F hr hg hm hk hb (fun σ => passAt tk σ) ha hdb he hpl) fun σ H Q ⟨ρ, k, q⟩ => ⟨ρ, k, (mdM_run q).mono fun ags ρ1 H1 _ s1 k1 q1 vs rs fs => by
    rw [← hm0]
    exact call_run hex k1 rs fs (fun ρ' e => by rw [e]; exact q1.1) q1.2 fun d ρ' v H' _ _ _ rf h => h v rf⟩
end
end DL
end
section
namespace DL
open PySem PySem.Spec L2
open PyProof.Rows hiding St

abbrev W0 : WX := fun _ _ _ _ => False
theorem takes0 {X : Cx} : Takes X W0 := fun u s' ⟨_, _, _, _, _, _, _, _, _, _, _, _, _, _, _, _, w⟩ => w.elim

/-! ### targets -/
abbrev TgF := D → DL.Env → Option DL.Env
def SameBut (js : List Nat) (σ σ' : L2.St) : Prop := σ'.length = σ.length ∧ ∀ j, j ∉ js → σ'[j]? = σ[j]?
def tgT (G : Gh) (js : List Nat) (t : TgF) : TG := fun v σ H Q => ∃ ρ d ρ', StOk G σ H ρ ∧ Rep G.m H v d ∧ t d ρ = some ρ' ∧ ∀ σ' H', SameBut js σ σ' → Stable H H' → StOk G σ' H' ρ' → Q σ' H'
def DGt (X : Cx) (G : Gh) (tg : Expr) (js : List Nat) (t : TgF) : Prop := PG X tg (tgT G js t)
abbrev TgsF := List D → DL.Env → Option DL.Env
def tgsT (G : Gh) (js : List Nat) (t : TgsF) : TGs := fun vs σ H Q => ∃ ρ ds ρ', StOk G σ H ρ ∧ RepL G.m H vs ds ∧ t ds ρ = some ρ' ∧ ∀ σ' H', SameBut js σ σ' → Stable H H' → StOk G σ' H' ρ' → Q σ' H'
def DGts (X : Cx) (G : Gh) (tgs : List Expr) (js : List Nat) (t : TgsF) : Prop := PGs X tgs (tgsT G js t)
theorem pg_imp {X : Cx} {e : Expr} {t t' : TG} (h : PG X e t) (k : ∀ v σ H Q, t' v σ H Q → t v σ H Q) : PG X e t' := ⟨fun pins s σ H v u Q I r q => h.run pins s σ H v u Q I r (k v σ H Q q)⟩
theorem pgs_imp {X : Cx} {e : List Expr} {t t' : TGs} (h : PGs X e t) (k : ∀ v σ H Q, t' v σ H Q → t v σ H Q) : PGs X e t' := ⟨fun pins s σ H v u Q I r q => h.run pins s σ H v u Q I r (k v σ H Q q)⟩
def tgN (i : Nat) : TgF := fun d ρ => some (ρ.set i (.d d))
def tgU (n : Nat) (t : TgsF) : TgF := fun d ρ => match d with
  | .tup ds => if ds.length = n then t ds ρ else none
  | _ => none
def tgs0 : TgsF := fun ds ρ => match ds with
  | [] => some ρ
  | _ => none
def tgs1 (t : TgF) (u : TgsF) : TgsF := fun ds ρ => match ds with
  | [] => none
  | d :: r => (t d ρ).bind (u r)
section
variable {X : Cx} {G : Gh} {W : WX} {rm : RM} {pos : Pos}
theorem dg_name (i : Nat) {x : Str} (hp : pfree G i) (hN : X.N.Nodup) (hi : X.N[i]? = some x) (hx : Loc X.env.scope x) (hf : X.fn x = true ∨ X.env.scope.names.lookup x = some .local := by first | exact .inl rfl | exact .inr rfl | assumption) : DGt X G (.Name x pos) [i] (tgN i) :=
  pg_imp (pg_name hN hi hx hf) fun v σ H Q ⟨ρ, d, ρ', k, r, e, q⟩ => by
    cases e
    exact q _ _ ⟨by simp, fun j hj => by rw [List.getElem?_set_ne (fun z => hj (by simp [z]))]⟩ Stable.rfl (k.setD hp r)
theorem dgs_nil : DGts X G [] [] tgs0 := pgs_imp pgs_nil fun vs σ H Q ⟨ρ, ds, ρ', k, r, e, q⟩ => by
  cases r with
  | nil => cases e; exact ⟨rfl, q _ _ ⟨rfl, fun _ _ => rfl⟩ Stable.rfl k⟩
  | cons a b => cases e
theorem SameBut.trans {js ks : List Nat} {σ σ1 σ2 : L2.St} (a : SameBut js σ σ1) (b : SameBut ks σ1 σ2) : SameBut (js ++ ks) σ σ2 := ⟨b.1.trans a.1, fun j hj => by
  rw [b.2 j (fun z => hj (by simp [z])), a.2 j (fun z => hj (by simp [z]))]⟩
theorem dgs_cons {e : Expr} {es : List Expr} {js ks : List Nat} {t : TgF} {u : TgsF} (h1 : DGt X G e js t) (h2 : DGts X G es ks u) (hs : (assignEach (e :: es) X.env).map (·.2) = assign e X.env :: (assignEach es X.env).map (·.2) := by rfl) : DGts X G (e :: es) (js ++ ks) (tgs1 t u) :=
  pgs_imp (pgs_cons h1 h2 hs) fun vs σ H Q ⟨ρ, ds, ρ', k, r, e, q⟩ => by
    cases r with
    | nil => cases e
    | @cons v vs d ds a b =>
      have e : (t d ρ).bind (u ds) = some ρ' := e
      cases e1 : t d ρ with
      | none => rw [e1] at e; cases e
      | some ρ1 =>
        rw [e1] at e
        exact ⟨v, vs, rfl, ρ, d, ρ1, k, a, e1, fun σ1 H1 b1 s1 k1 => ⟨ρ1, ds, ρ', k1, b.st s1, e, fun σ2 H2 b2 s2 k2 => q σ2 H2 (b1.trans b2) (s1.trans s2) k2⟩⟩
theorem dg_tup {es : List Expr} {k : Nat} {js : List Nat} {t : TgsF} {n : Nat} (hK : G.m = ⟨X.K, X.mg, X.w⟩) (hc : X.calm = true) (h : DGts X G es js t) (hn : (assignEach es X.env).length = n := by rfl) (hst : (assignEach es X.env).findIdx? (·.1) = none := by rfl) : DGt X G (.Tuple es k pos) js (tgU n t) :=
  pg_imp (pg_tup hc h hn hst) fun v σ H Q ⟨ρ, d, ρ', k, r, e, q⟩ => by
    cases r with
    | @tup a vs ds hq rl =>
      have e : (if ds.length = n then t ds ρ else none) = some ρ' := e
      by_cases hl : ds.length = n
      · rw [if_pos hl] at e
        exact ⟨a, vs, rfl, by rw [hK] at hq; exact hq, by rw [rl.len]; exact hl, ρ, ds, ρ', k, rl, e, q⟩
      · rw [if_neg hl] at e; cases e
    | _ => cases e
/-- targets = e, e a tuple -/
def asgM (f : M D) (t : TgF) : MS := bindM f fun d ρ => match t d ρ with
  | some ρ' => .ok .nx ρ'
  | none => .stuck
theorem ds_asg {tg e : Expr} {f : M D} {js : List Nat} {t : TgF} (he : DE X G W e f) (hg : DGt X G tg js t) (hs : swapsWithSole [tg] e pos.line X.env = pure false := by rfl) (hw : swappedStores [tg] e X.env = pure none := by rfl)
    (h1 : (assignEach [tg] X.env).map (·.2) = [assign tg X.env] := by rfl) : DS X G W rm (.Assign [tg] e pos) (asgM f t) :=
  ps_imp (ps_asg he hg hs hw h1) fun E σ H ⟨ρ, k, q⟩ => ⟨ρ, k, q.bind.mono fun d ρ1 H1 _ s1 k1 q1 v r => by
    cases e1 : t d ρ1 with
    | none => rw [e1] at q1; exact q1.elim
    | some ρ2 =>
      rw [e1] at q1
      exact ⟨ρ1, d, ρ2, k1, r, e1, fun σ' H' _ s' k' => q1 σ' H' s' k'⟩⟩
/-- a, b = e1, e2 -/
def parM (i j : Nat) (f : M (List D)) : MS := bindM f fun ds ρ => match ds with
  | [x, y] => .ok .nx ((ρ.set i (.d x)).set j (.d y))
  | _ => .stuck
/-! ### what is walked -/
structure IterOk (m : Md) (H : Hp) (J : It) (xs : List D) : Prop where
  stop : ∀ i H', Stable H H' → xs.length ≤ i → J.stop i H'
  go : ∀ i H', Stable H H' → i < xs.length → J.go i H'
  yld : ∀ i H1 v H2, Stable H H1 → i < xs.length → J.yld i H1 v H2 → H2 = H1 ∧ ∃ d, xs[i]? = some d ∧ Rep m H1 v d
def iT (G : Gh) (W : WX) (f : M (List D)) : TI := fun σ H R => ∃ ρ, StOk G σ H ρ ∧ postG G W σ H (f ρ) fun xs _ H' => ∀ J, IterOk G.m H' J xs → R J H'
def DI (X : Cx) (G : Gh) (W : WX) (tg iter : Expr) (f : M (List D)) : Prop := PI X tg iter (iT G W f)
theorem pi_imp {tg iter : Expr} {t t' : TI} (h : PI X tg iter t) (k : ∀ σ H R, t' σ H R → t σ H R) : PI X tg iter t' := ⟨fun pins s σ H R I q => h.run pins s σ H R I (k σ H R q)⟩
theorem iter_list {m : Md} {H : Hp} {a : Addr} {vs : List V} {ds : List D} (hq : SqF m.K H a vs) (r : RepL m H vs ds) : IterOk m H (Itl m.K a) ds where
  stop := fun i H' s h => ⟨vs, (hq.st s).sq, by rw [r.len]; exact h⟩
  go := fun i H' s h => ⟨vs, vs[i]'(by rw [r.len]; exact h), (hq.st s).sq, by simp [r.len, h]⟩
  yld := fun i H1 v H2 s hi h => by
    obtain ⟨e, h⟩ := h
    have hv := h vs (hq.st s).sq
    obtain ⟨d, h1, h2⟩ := r.getV hv
    exact ⟨e, d, h1, h2.st s⟩
theorem iter_tup {m : Md} {H : Hp} {a : Addr} {vs : List V} {ds : List D} (hq : SqT m.K H a vs) (r : RepL m H vs ds) : IterOk m H (Itt m.K a) ds where
  stop := fun i H' s h => ⟨vs, SqT_st s hq, by rw [r.len]; exact h⟩
  go := fun i H' s h => ⟨vs, vs[i]'(by rw [r.len]; exact h), SqT_st s hq, by simp [r.len, h]⟩
  yld := fun i H1 v H2 s hi h => by
    obtain ⟨e, h⟩ := h
    have hv := h vs (SqT_st s hq)
    obtain ⟨d, h1, h2⟩ := r.getV hv
    exact ⟨e, d, h1, h2.st s⟩
/-- a list or a tuple, walked -/
def iAny (K : PySem.W.Frag) (tl : TE) : TI := fun σ H R => tl σ H fun x H1 => ∃ a, x = .ref a ∧ (((∃ xs, SqL K H1 a xs) ∧ R (Itl K a) H1) ∨ ((∃ xs, SqT K H1 a xs) ∧ R (Itt K a) H1))
theorem pi_any {tg l : Expr} {tl : TE} (hl : PE X l tl) : PI X tg l (iAny X.K tl) := ⟨fun pins s σ H R I h => thn (hl.run pins s σ H _ I h) fun v s1 ⟨x, H1, I1, r1, a, e, q⟩ => by
  subst e
  cases r1
  have new : ∀ b ∈ [s1.heap.objs.size], FpOk X pins H1 b := fun b hb => by
    rw [List.mem_singleton.mp hb]
    exact I1.fpOk (Nat.le_refl _) (I1.hok.fresh (Nat.le_refl _))
  rcases q with ⟨⟨xs, hq⟩, q⟩ | ⟨⟨xs, hq⟩, q⟩
  · obtain ⟨its, _, pl, _⟩ := I1.list hq
    exact wpAny_pyIter_list pl.isList ⟨_, _, _, _, H1, rfl, I1.kept (t' := s1.toks) (fun b o e => Heap.get?_push_of_some _ e), turn_list a _, ⟨_, Heap.get?_push_size _ rfl, rfl, rfl⟩, new, q⟩
  · obtain ⟨its, _, pt, _⟩ := I1.tuple hq
    exact wpAny_pyIter_tuple (items := its.toArray) pt ⟨_, _, _, _, H1, rfl, I1.kept (t' := s1.toks) (fun b o e => Heap.get?_push_of_some _ e), turn_tuple a _, ⟨_, Heap.get?_push_size _ rfl, rfl, rfl⟩, new, q⟩⟩
def itemsOf : D → Option (List D)
  | .lst xs => some xs
  | .tup xs => some xs
  | _ => none
def itemsM (f : M D) : M (List D) := bindM f fun d => liftM (itemsOf d)
theorem di_any {tg l : Expr} {f : M D} (hK : G.m = ⟨X.K, X.mg, X.w⟩) (h : DE X G W l f) : DI X G W tg l (itemsM f) := pi_imp (pi_any h) fun σ H R ⟨ρ, k, q⟩ => ⟨ρ, k, q.bind.mono fun d ρ1 H1 _ s1 k1 q1 v r => by
  have eK : G.m.K = X.K := by rw [hK]
  cases r with
  | lst hq rl => exact ⟨_, rfl, .inl ⟨⟨_, eK ▸ hq.sq⟩, q1 H1 Stable.rfl k1 _ (eK ▸ iter_list hq rl)⟩⟩
  | tup hq rl => exact ⟨_, rfl, .inr ⟨⟨_, eK ▸ hq⟩, q1 H1 Stable.rfl k1 _ (eK ▸ iter_tup hq rl)⟩⟩
  | _ => exact q1.elim⟩
def inRg (i : Int) : Bool := decide (-(2 ^ 62) ≤ i) && decide (i < 2 ^ 62)
def rg1 : List D → Option (List D)
  | [.int j] => if inRg j = true then some ((List.range j.toNat).map fun (i : Nat) => D.int (0 + (i : Int))) else none
  | _ => none
def rg2 : List D → Option (List D)
  | [.int i, .int j] => if inRg i = true ∧ inRg j = true then some ((List.range (j - i).toNat).map fun (k : Nat) => D.int (i + (k : Int))) else none
  | _ => none
def rg1M (f : M (List D)) : M (List D) := bindM f fun ds => liftM (rg1 ds)
def rg2M (f : M (List D)) : M (List D) := bindM f fun ds => liftM (rg2 ds)
theorem iter_range {m : Md} {H : Hp} {lo : Int} {n : Nat} : IterOk m H (Itr lo n) ((List.range n).map fun (k : Nat) => D.int (lo + (k : Int))) where
  stop := fun i H' s h => show n ≤ i by simpa using h
  go := fun i H' s h => show i < n by simpa using h
  yld := fun i H1 v H2 s hi h => by
    obtain ⟨e, e2⟩ := h
    subst e2
    have hi : i < n := by simpa using hi
    exact ⟨e, .int (lo + i), by simp [hi], .int _⟩
theorem inRg_iff {i : Int} (h : inRg i = true) : -(2 ^ 62) ≤ i ∧ i < 2 ^ 62 := by
  unfold inRg at h
  simpa using h
theorem rg1_inv {ds xs : List D} (h : rg1 ds = some xs) : ∃ j, ds = [.int j] ∧ inRg j = true ∧ xs = ((List.range j.toNat).map fun (i : Nat) => D.int (0 + (i : Int))) := by
  unfold rg1 at h
  split at h
  · split at h
    · rename_i j hb; cases h; exact ⟨_, rfl, hb, rfl⟩
    · cases h
  · cases h
theorem di_range1 {tg a : Expr} {f : M (List D)} {p : Pos} (hg : Gl X "range") (hm : X.mg "range" = none) (ha : DA X G W [a] f) (hs : starEach [a] X.env = [(false, eval a X.env)] := by rfl) : DI X G W tg (.Call (.Name "range" p) [a] [] pos) (rg1M f) :=
  pi_imp (pi_range1 hg hm ha hs) fun σ H R ⟨ρ, k, q⟩ => ⟨ρ, k, q.bind.mono fun ds ρ1 H1 _ s1 k1 q1 vs r => by
    obtain ⟨xs, e, q2⟩ := q1.lift k1
    obtain ⟨j, rfl, hb, rfl⟩ := rg1_inv e
    cases r with
    | cons r0 r =>
      cases r
      cases r0
      exact ⟨j, rfl, (inRg_iff hb).1, (inRg_iff hb).2, q2 H1 Stable.rfl k1 _ iter_range⟩⟩
/-! ### for -/
def forM (tg : TgF) (body : MS) : List D → MS
  | [] => skipM
  | x :: xs => fun ρ => match tg x ρ with
    | none => .stuck
    | some ρ1 => match body ρ1 with
      | .ok .nx ρ2 => forM tg body xs ρ2
      | .ok .ct ρ2 => forM tg body xs ρ2
      | .ok .brk ρ2 => .ok .nx ρ2
      | r => r
def forD (it : M (List D)) (tg : TgF) (body : MS) : MS := bindM it fun xs => forM tg body xs
theorem ds_for {tg iter : Expr} {body : List Stmt} {f : M (List D)} {js : List Nat} {t : TgF} {b : MS} (hp : PassesOwn (model X.prog X.w) X.A X.env X.xe) (hc : X.calm = true) (hi : DI X G W tg iter f) (hg : DGt X G tg js t) (hb : DSs X G W rm body b)
    (hs : ∀ x, foldedSetIterable iter X.env x = pure x := by intro _; rfl) : DS X G W rm (.For tg iter body [] pos) (forD f t b) :=
  ps_imp (ps_for hp hc hi hg hb hs) fun E σ H ⟨ρ, k, q⟩ => ⟨ρ, k, q.bind.mono fun xs ρ1 H1 _ s1 k1 q1 J io => by
    refine ⟨fun i m σ' H' => m = xs.length - i ∧ i ≤ xs.length ∧ Stable H1 H' ∧ ∃ ρ', StOk G σ' H' ρ' ∧ postS G W rm H' (forM t b (xs.drop i) ρ') E, ⟨_, rfl, Nat.zero_le _, Stable.rfl, ρ1, k1, q1⟩, ?_⟩
    rintro i m σ' H' ⟨rfl, hi, st, ρ', k', q'⟩
    by_cases hlt : i < xs.length
    · refine .inr ⟨io.go i H' st hlt, fun σ2 H2 => Stable H1 H2 ∧ ∃ ρ2, StOk G σ2 H2 ρ2 ∧ postS G W rm H2 (forM t b (xs.drop (i + 1)) ρ2) E, fun σ2 H2 ⟨w1, w2⟩ => ⟨xs.length - (i + 1), by omega, rfl, hlt, w1, w2⟩, fun v H2 y => ?_⟩
      obtain ⟨e, d, hd, rd⟩ := io.yld i H' v H2 st hlt y
      subst e
      have ed : xs.drop i = d :: xs.drop (i + 1) := by
        rw [List.drop_eq_getElem_cons hlt]
        rw [List.getElem?_eq_getElem hlt] at hd
        injection hd with hd
        rw [hd]
      rw [ed] at q'
      unfold forM at q'
      cases e1 : t d ρ' with
      | none => simp only [e1] at q'; exact q'.elim
      | some ρ2 =>
        simp only [e1] at q'
        refine ⟨ρ', d, ρ2, k', rd, e1, fun σ3 H3 _ s3 k3 => ⟨ρ2, k3, ?_⟩⟩
        cases e2 : b ρ2 with
        | ok fl ρ4 =>
          simp only [e2] at q'
          cases fl with
          | nx => exact fun σ5 H5 s5 k5 => ⟨st.trans (s3.trans s5), ρ4, k5, q'.from (s3.trans s5)⟩
          | ct => exact fun σ5 H5 s5 k5 => ⟨st.trans (s3.trans s5), ρ4, k5, q'.from (s3.trans s5)⟩
          | brk => exact fun σ5 H5 s5 k5 => q' σ5 H5 (s3.trans s5) k5
          | ret d => exact fun v σ5 H5 s5 k5 => q' v σ5 H5 (s3.trans s5) k5
        | exc c ρ4 =>
          simp only [e2] at q'
          exact fun σ5 C H5 e5 s5 k5 => q' σ5 C H5 e5 (s3.trans s5) k5
        | stuck => simp only [e2] at q'; exact q'.elim
    · have e : i = xs.length := by omega
      subst e
      rw [List.drop_length] at q'
      exact .inl ⟨io.stop _ H' st (Nat.le_refl _), q' σ' H' Stable.rfl k'⟩⟩

/-! ### while: n turns at most -/
def whileM (c : M Bool) (body : MS) : Nat → MS
  | 0 => fun _ => .stuck
  | n + 1 => bindM c fun b => match b with
    | false => skipM
    | true => fun ρ1 => match body ρ1 with
      | .ok .nx ρ2 => whileM c body n ρ2
      | .ok .ct ρ2 => whileM c body n ρ2
      | .ok .brk ρ2 => .ok .nx ρ2
      | r => r
theorem ds_while (n : Nat) {c : Expr} {body : List Stmt} {t : M Bool} {b : MS} (hp : PassesOwn (model X.prog X.w) X.A X.env X.xe) (hc : DT X G W c t) (hb : DSs X G W rm body b) : DS X G W rm (.While c body [] pos) (whileM t b n) :=
  ps_imp (ps_while hp hc hb) fun E σ H ⟨ρ, k, q⟩ => by
    refine ⟨fun m σ' H' => ∃ ρ', StOk G σ' H' ρ' ∧ postS G W rm H' (whileM t b m ρ') E, ⟨n, ρ, k, q⟩, ?_⟩
    rintro m σ' H' ⟨ρ', k', q'⟩
    cases m with
    | zero => exact q'.elim
    | succ m =>
      unfold whileM at q'
      refine ⟨ρ', k', q'.bind.mono fun c ρ1 H1 _ s1 k1 q1 => ?_⟩
      cases c with
      | false => rw [if_neg (by decide)]; exact q1 σ' H1 Stable.rfl k1
      | true =>
        rw [if_pos rfl]
        refine ⟨fun σ2 H2 => ∃ ρ2, StOk G σ2 H2 ρ2 ∧ postS G W rm H2 (whileM t b m ρ2) E, fun σ2 H2 w => ⟨m, by omega, w⟩, ρ1, k1, ?_⟩
        cases e2 : b ρ1 with
        | ok fl ρ4 =>
          simp only [e2] at q1
          cases fl with
          | nx => exact fun σ5 H5 s5 k5 => ⟨ρ4, k5, q1.from s5⟩
          | ct => exact fun σ5 H5 s5 k5 => ⟨ρ4, k5, q1.from s5⟩
          | brk => exact q1
          | ret d => exact q1
        | exc c ρ4 => simp only [e2] at q1; exact q1
        | stuck => simp only [e2] at q1; exact q1.elim

/-! ### raise -/
def raiseM (c : Str) : MS := fun ρ => .exc c ρ
theorem ds_raise {x z : Str} {j : Nat} {C : Addr} {p p2 pos2 : Pos} (hK : G.m = ⟨X.K, X.mg, X.w⟩) (hc : X.calm = true) (tk : Takes X W) (q : PySem.W.excIn X.K C He.veBase "ValueError.__new__" = true) (gC : X.mg x = some (.ref C)) (kC : PySem.W.keepIn X.K (.ref C) = true) (r : Raises X (.ref C)) (hg : Gl X x) (hdb : (x == ("__debug__" : Str)) = false := by decide) :
    DS X G W rm (.Raise (some (.Call (.Name x p) [.Constant (.str z) j p2] [] pos)) none pos2) (raiseM x) :=
  ps_imp (ps_raise hc tk (pmk_own PySem.F.excBase_ValueError q gC kC r hg hdb)) fun E σ H ⟨ρ, k, h⟩ => h σ C H (by rw [hK]; exact gC) Stable.rfl k
end
end DL
end
section
namespace DL
open PySem PySem.Spec L2
open PyProof.Rows hiding St

/-! ### slots forgotten and put back -/
def plain : Sl → Bool
  | .no => true
  | .d _ => true
  | _ => false
def plainB (vs : List Nat) (ρ : DL.Env) : Bool := vs.all fun v => plain (ρ.getD v .no)
def wipeE (ρ : DL.Env) : List Nat → DL.Env
  | [] => ρ
  | v :: vs => (wipeE ρ vs).set v .no
def restE (ρ ρ' : DL.Env) : List Nat → DL.Env
  | [] => ρ'
  | v :: vs => (restE ρ ρ' vs).set v (ρ.getD v .no)
theorem wipe_get (σ : L2.St) (j : Nat) : ∀ vs : List Nat, (wipe σ vs)[j]? = if j ∈ vs then (σ[j]?.map fun _ => none) else σ[j]?
  | [] => by simp [wipe]
  | v :: vs => by
    unfold wipe
    by_cases e : v = j
    · subst e
      rw [List.getElem?_set_self', wipe_get σ v vs]
      by_cases h : v ∈ vs <;> simp [h] <;> cases σ[v]? <;> rfl
    · rw [List.getElem?_set_ne e, wipe_get σ j vs]
      have e' : j ≠ v := fun z => e z.symm
      simp [e']
theorem wipeE_len (ρ : DL.Env) : ∀ vs : List Nat, (wipeE ρ vs).length = ρ.length
  | [] => rfl
  | v :: vs => by unfold wipeE; rw [List.length_set, wipeE_len ρ vs]
theorem wipeE_get (ρ : DL.Env) (j : Nat) : ∀ vs : List Nat, (wipeE ρ vs)[j]? = if j ∈ vs then (ρ[j]?.map fun _ => Sl.no) else ρ[j]?
  | [] => by simp [wipeE]
  | v :: vs => by
    unfold wipeE
    by_cases e : v = j
    · subst e
      rw [List.getElem?_set_self', wipeE_get ρ v vs]
      by_cases h : v ∈ vs <;> simp [h] <;> cases ρ[v]? <;> rfl
    · rw [List.getElem?_set_ne e, wipeE_get ρ j vs]
      have e' : j ≠ v := fun z => e z.symm
      simp [e']
theorem restE_len (ρ ρ' : DL.Env) : ∀ vs : List Nat, (restE ρ ρ' vs).length = ρ'.length
  | [] => rfl
  | v :: vs => by unfold restE; rw [List.length_set, restE_len ρ ρ' vs]
theorem restE_get (ρ ρ' : DL.Env) (hl : ρ.length = ρ'.length) (j : Nat) : ∀ vs : List Nat, (restE ρ ρ' vs)[j]? = if j ∈ vs then ρ[j]? else ρ'[j]?
  | [] => by simp [restE]
  | v :: vs => by
    unfold restE
    by_cases e : v = j
    · subst e
      by_cases hj : v < ρ.length
      · rw [List.getElem?_set_self (by rw [restE_len, ← hl]; exact hj)]
        simp [List.getD_eq_getElem?_getD, List.getElem?_eq_getElem hj]
      · rw [List.getElem?_eq_none (by rw [List.length_set, restE_len, ← hl]; omega)]
        simp [List.getElem?_eq_none (Nat.le_of_not_lt hj)]
    · rw [List.getElem?_set_ne e, restE_get ρ ρ' hl j vs]
      have e' : j ≠ v := fun z => e z.symm
      simp [e']
theorem plain_at {vs : List Nat} {ρ : DL.Env} (h : plainB vs ρ = true) {j : Nat} (hj : j ∈ vs) {s : Sl} (e : ρ[j]? = some s) : plain s = true := by
  have := List.all_eq_true.mp h j hj
  rw [List.getD_eq_getElem?_getD, e] at this
  exact this
theorem wipe_same {js vs : List Nat} {σ σ2 : L2.St} (hs : ∀ j ∈ js, j ∈ vs) (h : SameBut js (wipe σ vs) σ2) : wipe σ2 vs = wipe σ vs := by
  apply List.ext_getElem?
  intro j
  rw [wipe_get, wipe_get]
  by_cases hj : j ∈ vs
  · simp only [hj, if_true]
    have hl : σ2.length = σ.length := by rw [h.1, wipe_length]
    by_cases hlt : j < σ.length
    · rw [List.getElem?_eq_getElem hlt, List.getElem?_eq_getElem (by rw [hl]; exact hlt)]; rfl
    · rw [List.getElem?_eq_none (by omega), List.getElem?_eq_none (by omega)]
  · simp only [hj, if_false]
    have := h.2 j (fun z => hj (hs j z))
    rw [this, wipe_get]; simp [hj]
section
variable {G : Gh} {σ : L2.St} {H H' : Hp} {ρ ρ' : DL.Env} {vs : List Nat}
theorem StOk.wipe (k : StOk G σ H ρ) (hp : plainB vs ρ = true) : StOk G (L2.wipe σ vs) H (wipeE ρ vs) := by
  have nin : ∀ {j : Nat} {s : Sl}, (wipeE ρ vs)[j]? = some s → s ≠ .no → j ∉ vs ∧ ρ[j]? = some s := fun {j s} h hs => by
    rw [wipeE_get] at h
    by_cases hj : j ∈ vs
    · simp only [hj, if_true] at h
      cases e : ρ[j]? with
      | none => rw [e] at h; cases h
      | some t => rw [e] at h; simp at h; exact absurd h.symm hs
    · simp only [hj, if_false] at h; exact ⟨hj, h⟩
  have sg : ∀ {j : Nat}, j ∉ vs → (L2.wipe σ vs)[j]? = σ[j]? := fun {j} hj => by rw [wipe_get]; simp [hj]
  refine ⟨by rw [wipe_length, wipeE_len, k.len], fun i x h => ?_, fun i xs h => ?_, fun i j xs ys b ne h1 h2 h3 => ?_, fun p hpm => ?_, k.keep, fun i c h => ?_⟩
  · obtain ⟨n1, h⟩ := nin h (fun z => by cases z)
    rw [sg n1]; exact k.dat i x h
  · obtain ⟨n1, h⟩ := nin h (fun z => by cases z)
    rw [sg n1]; exact k.own i xs h
  · obtain ⟨n1, h1⟩ := nin h1 (fun z => by cases z)
    obtain ⟨n2, h2⟩ := nin h2 (fun z => by cases z)
    rw [sg n1] at h3
    rw [sg n2]; exact k.sep i j xs ys b ne h1 h2 h3
  · obtain ⟨q1, xs, q2⟩ := k.prot p hpm
    have n1 : p.1 ∉ vs := fun z => by have := plain_at hp z q2; simp [plain] at this
    exact ⟨by rw [sg n1]; exact q1, xs, by rw [wipeE_get]; simp [n1, q2]⟩
  · obtain ⟨n1, h⟩ := nin h (fun z => by cases z)
    rw [sg n1]; exact k.exn i c h
theorem StOk.rest (k : StOk G σ H ρ) (hp : plainB vs ρ = true) (st : Stable H H') (k' : StOk G (L2.wipe σ vs) H' ρ') : StOk G σ H' (restE ρ ρ' vs) := by
  have hl : ρ.length = ρ'.length := by rw [← k.len, ← k'.len, wipe_length]
  have sg : ∀ {j : Nat}, j ∉ vs → (L2.wipe σ vs)[j]? = σ[j]? := fun {j} hj => by rw [wipe_get]; simp [hj]
  have at_ : ∀ {j : Nat} {s : Sl}, (restE ρ ρ' vs)[j]? = some s → (j ∈ vs ∧ ρ[j]? = some s ∧ plain s = true) ∨ (j ∉ vs ∧ ρ'[j]? = some s) := fun {j s} h => by
    rw [restE_get ρ ρ' hl] at h
    by_cases hj : j ∈ vs
    · simp only [hj, if_true] at h; exact .inl ⟨hj, h, plain_at hp hj h⟩
    · simp only [hj, if_false] at h; exact .inr ⟨hj, h⟩
  refine ⟨by rw [restE_len, ← hl, k.len], fun i x h => ?_, fun i xs h => ?_, fun i j xs ys b ne h1 h2 h3 => ?_, fun p hpm => ?_, k'.keep, fun i c h => ?_⟩
  · rcases at_ h with ⟨_, h, _⟩ | ⟨n, h⟩
    · obtain ⟨v, h1, h2⟩ := k.dat i x h
      exact ⟨v, h1, h2.st st⟩
    · have := k'.dat i x h
      rw [sg n] at this; exact this
  · rcases at_ h with ⟨_, _, e⟩ | ⟨n, h⟩
    · simp [plain] at e
    · have := k'.own i xs h
      rw [sg n] at this; exact this
  · rcases at_ h1 with ⟨_, _, e⟩ | ⟨n1, h1⟩
    · simp [plain] at e
    rcases at_ h2 with ⟨_, _, e⟩ | ⟨n2, h2⟩
    · simp [plain] at e
    have := k'.sep i j xs ys b ne h1 h2 (by rw [sg n1]; exact h3)
    rw [sg n2] at this; exact this
  · obtain ⟨q1, xs, q2⟩ := k.prot p hpm
    obtain ⟨_, ys, q3⟩ := k'.prot p hpm
    have n1 : p.1 ∉ vs := fun z => by have := plain_at hp z q2; simp [plain] at this
    exact ⟨q1, ys, by rw [restE_get ρ ρ' hl]; simp [n1, q3]⟩
  · rcases at_ h with ⟨_, _, e⟩ | ⟨n, h⟩
    · simp [plain] at e
    · have := k'.exn i c h
      rw [sg n] at this; exact this
end
/-- a place more that stands as it stood -/
def Gh.add (G : Gh) (p : Addr) (o : HO) : Gh := { G with H0 := upd G.H0 p o }
section
variable {G : Gh} {σ : L2.St} {H H' : Hp} {ρ : DL.Env} {p : Addr} {o : HO}
theorem StOk.add (k : StOk G σ H ρ) (f : Fresh G σ ρ p) (h : H p = some o) : StOk (G.add p o) σ H ρ where
  len := k.len
  dat := k.dat
  own := fun i xs e => by
    obtain ⟨a, ws, h1, h2, h3, h4⟩ := k.own i xs e
    refine ⟨a, ws, h1, h2, h3, fun c => ⟨?_, (h4 c).2⟩⟩
    show L2.upd G.H0 p o a = none
    rw [upd_ne (fun z => f.2.2 i xs e (by rw [← z]; exact h1))]
    exact (h4 c).1
  sep := k.sep
  prot := k.prot
  keep := fun b u e n => by
    have e : L2.upd G.H0 p o b = some u := e
    by_cases z : b = p
    · subst z; rw [upd_same] at e; cases e; exact h
    · rw [upd_ne z] at e; exact k.keep b u e n
  exn := k.exn
theorem StOk.unadd (k : StOk (G.add p o) σ H ρ) (h0 : G.H0 p = none) (hp : ∀ q ∈ G.pr, q.2 ≠ p) : StOk G σ H ρ ∧ Fresh G σ ρ p ∧ H p = some o := by
  refine ⟨⟨k.len, k.dat, fun i xs e => ?_, k.sep, k.prot, fun b u e n => ?_, k.exn⟩, ⟨h0, hp, fun i xs e z => ?_⟩, ?_⟩
  · obtain ⟨a, ws, h1, h2, h3, h4⟩ := k.own i xs e
    refine ⟨a, ws, h1, h2, h3, fun c => ⟨?_, (h4 c).2⟩⟩
    have q : L2.upd G.H0 p o a = none := (h4 c).1
    by_cases z : a = p
    · subst z; exact h0
    · rw [upd_ne z] at q; exact q
  · have z : b ≠ p := fun z => by subst z; rw [h0] at e; cases e
    exact k.keep b u (by show L2.upd G.H0 p o b = some u; rw [upd_ne z]; exact e) n
  · obtain ⟨a, ws, h1, h2, h3, h4⟩ := k.own i xs e
    rw [z] at h1; cases h1
    by_cases c : ∀ q ∈ G.pr, q.1 ≠ i
    · have q : L2.upd G.H0 p o p = none := (h4 c).1
      rw [upd_same] at q; cases q
    · apply c
      intro q hq w
      obtain ⟨q1, _⟩ := k.prot q hq
      rw [w, z] at q1
      injection q1 with q1; injection q1 with q1; injection q1 with q1
      exact hp q hq q1.symm
  · exact k.keep p o (by show L2.upd G.H0 p o p = some o; rw [upd_same]) hp
end

/-! ### comprehensions -/
def DTs (X : Cx) (G : Gh) (W : WX) (ifs : List Expr) (f : M Bool) : Prop := PTs X ifs (tT G W f)
theorem pts_imp {X : Cx} {e : List Expr} {t t' : TT} (h : PTs X e t) (k : ∀ σ H Q, t' σ H Q → t σ H Q) : PTs X e t' := ⟨fun pins s σ H Q I q => h.run pins s σ H Q I (k σ H Q q)⟩
theorem dts_nil {X : Cx} {G : Gh} {W : WX} : DTs X G W [] (pureM true) := pts_imp pts_nil fun σ H Q ⟨ρ, k, q⟩ => q H Stable.rfl k
/-- one item: what becomes of the list made so far -/
def itemM (tt : M Bool) (te : M D) (acc : List D) : M (List D) := bindM tt fun b => match b with
  | false => pureM acc
  | true => bindM te fun y => if acc.length < sizeLine then pureM (acc ++ [y]) else stuckM
def compGo (tg : TgF) (tt : M Bool) (te : M D) (vs : List Nat) : List D → List D → M (List D)
  | acc, [] => pureM acc
  | acc, x :: xs => fun ρ => match tg x ρ with
    | none => .stuck
    | some ρ1 => match itemM tt te acc ρ1 with
      | .ok acc' ρ2 => if plainB vs ρ2 = true then compGo tg tt te vs acc' xs (wipeE ρ2 vs) else .stuck
      | _ => .stuck
def compO (it : M (List D)) (tg : TgF) (tt : M Bool) (te : M D) (vs : List Nat) : M (List D) := bindM it fun xs ρ => if plainB vs ρ = true then (match compGo tg tt te vs [] xs (wipeE ρ vs) with
  | .ok ys ρ' => .ok ys (restE ρ ρ' vs)
  | _ => .stuck) else .stuck
theorem Fresh.of {G : Gh} {σ σ' : L2.St} {ρ ρ' : DL.Env} {p : Addr} (f : Fresh G σ ρ p) (h : ∀ (i : Nat) (xs : OC), ρ'[i]? = some (.cell xs) → σ'[i]? = some (some (.ref p)) → ∃ ys, ρ[i]? = some (.cell ys) ∧ σ[i]? = some (some (.ref p))) : Fresh G σ' ρ' p :=
  ⟨f.1, f.2.1, fun i xs e z => by obtain ⟨ys, e1, e2⟩ := h i xs e z; exact f.2.2 i ys e1 e2⟩
theorem bindM_ok {α β : Type} {a : M α} {k : α → M β} {ρ ρ' : DL.Env} {y : β} (h : bindM a k ρ = .ok y ρ') : ∃ x ρ1, a ρ = .ok x ρ1 ∧ k x ρ1 = .ok y ρ' := by
  unfold bindM at h
  cases e : a ρ with
  | ok x ρ1 => rw [e] at h; exact ⟨x, ρ1, rfl, h⟩
  | exc c ρ1 => rw [e] at h; cases h
  | stuck => rw [e] at h; cases h
theorem itemM_inv {tt : M Bool} {te : M D} {acc acc' : List D} {ρ ρ' : DL.Env} (h : itemM tt te acc ρ = .ok acc' ρ') : ∃ b ρ1, tt ρ = .ok b ρ1 ∧ ((b = false ∧ acc' = acc ∧ ρ' = ρ1) ∨ (b = true ∧ ∃ y, te ρ1 = .ok y ρ' ∧ acc.length < sizeLine ∧ acc' = acc ++ [y])) := by
  obtain ⟨b, ρ1, e, h⟩ := bindM_ok h
  cases b with
  | false => cases h; exact ⟨false, _, e, .inl ⟨rfl, rfl, rfl⟩⟩
  | true =>
    obtain ⟨y, ρ2, e2, h⟩ := bindM_ok h
    by_cases hz : acc.length < sizeLine
    · simp only [hz, if_true] at h; cases h; exact ⟨true, ρ1, e, .inr ⟨rfl, y, e2, hz, rfl⟩⟩
    · simp only [hz, if_false] at h; cases h
section
variable {X : Cx} {G : Gh} {W : WX}
/-- the ghost context with another entry heap -/
abbrev Gh.at (G : Gh) (H : Hp) : Gh := ⟨G.m, H, G.pr, G.ex⟩
theorem lc_read {elt tg iter : Expr} {ifs : List Expr} {scope : Scope} {own : List (Str × Nat)} {fi : M (List D)} {js : List Nat} {t : TgF} {tt : M Bool} {te : M D} (hc : X.calm = true) (hN : X.N.Nodup) (hi : DI X G W tg iter fi) (ok : BlkOk X.N X.env.scope scope own) (hjs : js.all (fun j => (own.map (·.2)).contains j) = true)
    (hg : ∀ (h : Hp) (s : Shared) (H : Hp) (C : Addr) (cl : List (Str × Addr)) (fp : List Addr), DGt (X.blk s H scope (compEnvC scope cl C X.env) fp) (G.at h) tg js t)
    (ht : ∀ (h : Hp) (s : Shared) (H : Hp) (C : Addr) (cl : List (Str × Addr)) (fp : List Addr), DTs (X.blk s H scope (compEnvC scope cl C X.env) fp) (G.at h) W0 ifs tt)
    (he : ∀ (h : Hp) (s : Shared) (H : Hp) (C : Addr) (cl : List (Str × Addr)) (fp : List Addr), DE (X.blk s H scope (compEnvC scope cl C X.env) fp) (G.at h) W0 elt te) :
    ∃ wi g tt' te', PI X tg iter wi ∧ (∀ (s : Shared) (H : Hp) (C : Addr) (cl : List (Str × Addr)) (fp : List Addr), PG (X.blk s H scope (compEnvC scope cl C X.env) fp) tg g) ∧ (∀ (s : Shared) (H : Hp) (C : Addr) (cl : List (Str × Addr)) (fp : List Addr), PTs (X.blk s H scope (compEnvC scope cl C X.env) fp) ifs tt') ∧
      (∀ (s : Shared) (H : Hp) (C : Addr) (cl : List (Str × Addr)) (fp : List Addr), PE (X.blk s H scope (compEnvC scope cl C X.env) fp) elt te') ∧ ∀ σ H Q, oT G W (compO fi t tt te (own.map (·.2))) σ H Q → tLc wi g tt' te' (own.map (·.2)) σ H Q := by
  have hjs' : ∀ j ∈ js, j ∈ own.map (·.2) := fun j hj => by simpa using List.all_eq_true.mp hjs j hj
  generalize hvs : own.map (·.2) = vs at hjs'
  refine ⟨_, fun v σ H Q => ∃ h, tgT (G.at h) js t v σ H Q, fun σ H Q => ∃ h, tT (G.at h) W0 tt σ H Q, fun σ H Q => ∃ h, dT (G.at h) W0 te σ H Q, hi,
    (fun s H C cl fp => ⟨fun pins s' σ H' v u Q I r ⟨h, q⟩ => (hg h s H C cl fp).run pins s' σ H' v u Q I r q⟩),
    (fun s H C cl fp => ⟨fun pins s' σ H' Q I ⟨h, q⟩ => (ht h s H C cl fp).run pins s' σ H' Q I q⟩),
    (fun s H C cl fp => ⟨fun pins s' σ H' Q I ⟨h, q⟩ => (he h s H C cl fp).run pins s' σ H' Q I q⟩), fun σ H Q ⟨ρ, k, q⟩ => ?_⟩
  refine ⟨ρ, k, q.bind.mono fun xs ρ1 H1 _ s1 k1 q1 J io => fun Dn hD => ?_⟩
  by_cases hpl : plainB vs ρ1 = true
  · simp only [hpl, if_true] at q1
    have gr := Grow.new (o := .lst []) hD
    have k2 := (k1.grow gr).wipe hpl
    have fr : Fresh G σ ρ1 Dn := k1.fresh hD
    have sgw : ∀ {j : Nat}, j ∉ vs → (L2.wipe σ vs)[j]? = σ[j]? := fun {j} hj => by rw [wipe_get]; simp [hj]
    refine ⟨fun i n H' => n = xs.length - i ∧ i ≤ xs.length ∧ Stable H1 H' ∧ ∃ ρ' acc ws, StOk G (L2.wipe σ vs) H' ρ' ∧ Fresh G (L2.wipe σ vs) ρ' Dn ∧ H' Dn = some (.lst ws) ∧ RepL G.m H' ws acc ∧ (∀ j ∈ vs, ∀ us, ρ'[j]? ≠ some (.cell us)) ∧
        postG G W σ H1 (match compGo t tt te vs acc (xs.drop i) ρ' with | .ok ys ρ' => .ok ys (restE ρ1 ρ' vs) | _ => .stuck) (fun ds ρ' H' => ∀ a vs, H' a = some (.lst vs) → RepL G.m H' vs ds → Fresh G σ ρ' a → Q (.ref a) H'), ⟨_, rfl, Nat.zero_le _, gr.stable, _, [], [], k2, ?_, upd_same, .nil, ?_, ?_⟩, ?_⟩
    · refine fr.of fun i us h z => ?_
      rw [wipeE_get] at h
      by_cases hj : i ∈ vs
      · simp only [hj, if_true] at h
        cases e : ρ1[i]? <;> rw [e] at h <;> simp at h
      · simp only [hj, if_false] at h
        exact ⟨us, h, by rw [← sgw hj]; exact z⟩
    · intro j hj us h
      rw [wipeE_get] at h
      simp only [hj, if_true] at h
      cases e : ρ1[j]? <;> rw [e] at h <;> simp at h
    · rw [List.drop_zero]; exact q1
    · rintro i n H' ⟨rfl, hi', st, ρ', acc, ws, kk, fr', hDn, rl, nov, qq⟩
      by_cases hlt : i < xs.length
      · refine .inr ⟨io.go i H' st hlt, fun H2 => Stable H1 H2 ∧ ∃ ρ' acc ws, StOk G (L2.wipe σ vs) H2 ρ' ∧ Fresh G (L2.wipe σ vs) ρ' Dn ∧ H2 Dn = some (.lst ws) ∧ RepL G.m H2 ws acc ∧ (∀ j ∈ vs, ∀ us, ρ'[j]? ≠ some (.cell us)) ∧
          postG G W σ H1 (match compGo t tt te vs acc (xs.drop (i + 1)) ρ' with | .ok ys ρ' => .ok ys (restE ρ1 ρ' vs) | _ => .stuck) (fun ds ρ' H' => ∀ a vs, H' a = some (.lst vs) → RepL G.m H' vs ds → Fresh G σ ρ' a → Q (.ref a) H'), fun H2 w => ⟨xs.length - (i + 1), by omega, rfl, hlt, w⟩, fun v H2 y => ?_⟩
        obtain ⟨e, d, hd, rd⟩ := io.yld i H' v H2 st hlt y
        rw [e]
        have ed : xs.drop i = d :: xs.drop (i + 1) := by
          rw [List.drop_eq_getElem_cons hlt]
          rw [List.getElem?_eq_getElem hlt] at hd
          injection hd with hd
          rw [hd]
        rw [ed] at qq
        unfold compGo at qq
        cases e1 : t d ρ' with
        | none => simp only [e1] at qq; exact qq.elim
        | some ρ2 =>
          simp only [e1] at qq
          cases e2 : itemM tt te acc ρ2 with
          | exc c ρ3 => simp only [e2] at qq; exact qq.elim
          | stuck => simp only [e2] at qq; exact qq.elim
          | ok acc' ρ3 =>
            simp only [e2] at qq
            by_cases hp3 : plainB vs ρ3 = true
            · simp only [hp3, if_true] at qq
              refine ⟨(G.add Dn (.lst ws)).H0, ρ', d, ρ2, kk.add fr' hDn, rd, e1, fun σ2 H2 sb s2 k2' => ?_⟩
              have ws2 := wipe_same hjs' sb
              obtain ⟨b, ρ4, e3, e4⟩ := itemM_inv e2
              have novw : ∀ j ∈ vs, ∀ us, (wipeE ρ3 vs)[j]? ≠ some (.cell us) := fun j hj us h => by
                rw [wipeE_get] at h
                simp only [hj, if_true] at h
                cases e : ρ3[j]? <;> rw [e] at h <;> simp at h
              have frw : ∀ {H5 : Hp}, Fresh G σ2 ρ3 Dn → Fresh G (L2.wipe σ vs) (wipeE ρ3 vs) Dn := fun {H5} f => by
                rw [← ws2]
                refine f.of fun i us h z => ?_
                rw [wipeE_get] at h
                by_cases hj : i ∈ vs
                · simp only [hj, if_true] at h
                  cases e : ρ3[i]? <;> rw [e] at h <;> simp at h
                · simp only [hj, if_false] at h
                  exact ⟨us, h, (wipe_some z).1⟩
              refine ⟨ws2, (G.add Dn (.lst ws)).H0, ρ2, k2', ?_⟩
              rw [e3]
              intro H3 s3 k3
              rcases e4 with ⟨rfl, rfl, rfl⟩ | ⟨rfl, yv, e5, hz, rfl⟩
              · rw [if_neg (by decide)]
                obtain ⟨k4, f4, h4⟩ := k3.unadd fr.1 fr.2.1
                have k5 := k4.wipe hp3
                rw [ws2] at k5
                exact ⟨st.trans (s2.trans s3), _, _, ws, k5, frw (H5 := H3) f4, h4, rl.st (s2.trans s3), novw, qq⟩
              · rw [if_pos rfl]
                refine ⟨(G.add Dn (.lst ws)).H0, ρ4, k3, ?_⟩
                rw [e5]
                intro H4 s4 k4 v4 r4
                obtain ⟨k5, f5, h5⟩ := k4.unadd fr.1 fr.2.1
                have su : Stable H4 (upd H4 Dn (.lst (ws ++ [v4]))) := Stable.upd h5 id
                have k6 := (k5.upd (o := .lst (ws ++ [v4])) f5 fun u hu => nfix_of h5 id hu).wipe hp3
                rw [ws2] at k6
                have s4' : Stable H' H4 := s2.trans (s3.trans s4)
                exact ⟨ws, h5, by rw [rl.len]; exact hz, st.trans (s4'.trans su), _, _, _, k6, frw (H5 := H4) f5, upd_same, (rl.st (s4'.trans su)).append (.cons (r4.st su) .nil), novw, qq⟩
            · simp only [hp3] at qq; exact qq.elim
      · have e : i = xs.length := by omega
        subst e
        rw [List.drop_length] at qq
        refine .inl ⟨io.stop _ H' st (Nat.le_refl _), ?_⟩
        have hl : ρ1.length = ρ'.length := by rw [← k1.len, ← kk.len, wipe_length]
        refine qq H' st (k1.rest hpl st kk) Dn ws hDn rl (fr'.of fun i us h z => ?_)
        rw [restE_get ρ1 ρ' hl] at h
        by_cases hj : i ∈ vs
        · simp only [hj, if_true] at h
          have := plain_at hpl hj h
          simp [plain] at this
        · simp only [hj, if_false] at h
          exact ⟨us, h, by rw [sgw hj]; exact z⟩
  · simp only [hpl] at q1; exact q1.elim
theorem do_lc {elt tg iter : Expr} {ifs : List Expr} {scope : Scope} {own : List (Str × Nat)} {pos : Pos} {fi : M (List D)} {js : List Nat} {t : TgF} {tt : M Bool} {te : M D} (hc : X.calm = true) (hN : X.N.Nodup) (hi : DI X G W tg iter fi) (ok : BlkOk X.N X.env.scope scope own) {vs : List Nat} (hvs : own.map (·.2) = vs) (hjs : js.all (fun j => (own.map (·.2)).contains j) = true)
    (hg : ∀ (h : Hp) (s : Shared) (H : Hp) (C : Addr) (cl : List (Str × Addr)) (fp : List Addr), DGt (X.blk s H scope (compEnvC scope cl C X.env) fp) (G.at h) tg js t)
    (ht : ∀ (h : Hp) (s : Shared) (H : Hp) (C : Addr) (cl : List (Str × Addr)) (fp : List Addr), DTs (X.blk s H scope (compEnvC scope cl C X.env) fp) (G.at h) W0 ifs tt)
    (he : ∀ (h : Hp) (s : Shared) (H : Hp) (C : Addr) (cl : List (Str × Addr)) (fp : List Addr), DE (X.blk s H scope (compEnvC scope cl C X.env) fp) (G.at h) W0 elt te) (hs : ∀ x, foldedSetIterable iter X.env x = pure x := by intro _; rfl) :
    DO X G W (.ListComp elt [⟨tg, iter, ifs, 0⟩] scope pos) (compO fi t tt te vs) := by
  subst hvs
  obtain ⟨wi, g, tt', te', h1, h2, h3, h4, h5⟩ := lc_read hc hN hi ok hjs hg ht he
  exact pe_imp (pe_lc hc hN h1 ok h2 h3 h4 hs) h5
end
end DL
end
section
namespace DL
open PySem PySem.Spec L2
open PyProof.Rows hiding St

/-! ### data as the library's data -/
mutual
def toPy : D → PyData
  | .non => .none
  | .bl b => .bool b
  | .int i => .int i
  | .str s => .str s
  | .lst xs => .list (toPyL xs)
  | .tup xs => .tuple (toPyL xs)
  | .dic _ _ => .dict []
  | .ins _ _ _ => .dict []
def toPyL : List D → List PyData
  | [] => []
  | x :: xs => toPy x :: toPyL xs
end
section
variable {m : Md} {H : Hp}
mutual
theorem Rep.dp : ∀ {d : D} {v : V}, Rep m H v d → (toPy d).canLay0 = true → Dp m.K H v (toPy d)
  | .non, _, h, _ => by cases h; exact .non
  | .bl b, _, h, _ => by cases h; exact .bl b
  | .int i, _, h, _ => by cases h; exact .int i
  | .str x, _, h, _ => by cases h; exact .str x
  | .lst ds, _, h, c => by
    cases h with
    | lst q r => exact .lst q.sq (RepL.dp r c)
  | .tup ds, _, h, c => by
    cases h with
    | tup q r => exact .tup q (RepL.dp r c)
  | .dic _ _, _, _, c => by simp [toPy, PyData.canLay0] at c
  | .ins _ _ _, _, _, c => by simp [toPy, PyData.canLay0] at c
theorem RepL.dp : ∀ {ds : List D} {vs : List V}, RepL m H vs ds → PyData.canLayAll0 (toPyL ds) = true → DpAll m.K H vs (toPyL ds)
  | [], _, h, _ => by cases h; exact .nil
  | d :: ds, _, h, c => by
    cases h with
    | cons a b =>
      have c : ((toPy d).canLay0 && PyData.canLayAll0 (toPyL ds)) = true := by simpa [toPyL, PyData.canLayAll0] using c
      rw [Bool.and_eq_true] at c
      exact .cons (Rep.dp a c.1) (RepL.dp b c.2)
end
end
def okD (d : D) : Bool := SeqAt.shaped (toPy d)
def eqvD (a b : D) : Bool := PyData.eqv (toPy a) (toPy b)
def eqD (a b : D) : Option D := if (okD a && okD b) = true then some (.bl (eqvD a b)) else none
def neD (a b : D) : Option D := if (okD a && okD b) = true then some (.bl (!eqvD a b)) else none
section
variable {m : Md}
theorem opd_eq : OpD m (rEqD m.K) eqD := fun x y dx dy d H Q rx ry e h => by
  unfold eqD at e
  split at e
  · rename_i c
    rw [Bool.and_eq_true] at c
    cases e
    exact ⟨toPy dx, toPy dy, rx.dp (SeqAt.canLay_of_shaped c.1), ry.dp (SeqAt.canLay_of_shaped c.2), c.1, c.2, h _ H Grow.rfl (.bl _)⟩
  · cases e
theorem opd_ne : OpD m (rNeD m.K) neD := fun x y dx dy d H Q rx ry e h => by
  unfold neD at e
  split at e
  · rename_i c
    rw [Bool.and_eq_true] at c
    cases e
    exact ⟨toPy dx, toPy dy, rx.dp (SeqAt.canLay_of_shaped c.1), ry.dp (SeqAt.canLay_of_shaped c.2), c.1, c.2, h _ H Grow.rfl (.bl _)⟩
  · cases e
/-! ### whole numbers -/
def intD (f : Int → Int → Option D) : D → D → Option D
  | .int i, .int j => f i j
  | _, _ => none
theorem opd_i0 {g : Int → Int → V} {f : Int → Int → D} (h : ∀ i j H, Rep m H (g i j) (f i j)) : OpD m (rI0 g) (intD fun i j => some (f i j)) := fun x y dx dy d H Q rx ry e k => by
  cases rx <;> cases ry <;> first | (cases e; exact ⟨_, _, rfl, rfl, k _ H Grow.rfl (h _ _ H)⟩) | cases e
theorem opd_iC {C : Int → Int → Prop} [∀ i j, Decidable (C i j)] {g : Int → Int → V} {f : Int → Int → D} (h : ∀ i j H, Rep m H (g i j) (f i j)) : OpD m (rI C g) (intD fun i j => if C i j then some (f i j) else none) := fun x y dx dy d H Q rx ry e k => by
  cases rx with
  | int i =>
    cases ry with
    | int j =>
      have e : (if C i j then some (f i j) else none) = some d := e
      by_cases c : C i j
      · rw [if_pos c] at e; cases e; exact ⟨i, j, rfl, rfl, c, k _ H Grow.rfl (h _ _ H)⟩
      · rw [if_neg c] at e; cases e
    | _ => cases e
  | _ => cases e
def subD : D → D → Option D := intD fun i j => some (.int (i - j))
instance (i j : Int) : Decidable (CMul i j) := by unfold CMul; infer_instance
instance (i j : Int) : Decidable (CDiv i j) := by unfold CDiv; infer_instance
instance (i j : Int) : Decidable (CPow i j) := by unfold CPow; infer_instance
def mulD : D → D → Option D := intD fun i j => if CMul i j then some (.int (i * j)) else none
def divD : D → D → Option D := intD fun i j => if CDiv i j then some (.int (i / j)) else none
def modD : D → D → Option D := intD fun i j => if 0 < j then some (.int (i % j)) else none
def powD : D → D → Option D := intD fun i j => if CPow i j then some (.int (i ^ j.toNat)) else none
def ltD : D → D → Option D := intD fun i j => some (.bl (decide (i < j)))
def leD : D → D → Option D := intD fun i j => some (.bl (decide (i ≤ j)))
def gtD : D → D → Option D := intD fun i j => some (.bl (decide (j < i)))
def geD : D → D → Option D := intD fun i j => some (.bl (decide (j ≤ i)))
theorem opd_sub : OpD m (rI0 fun i j => .int (i - j)) subD := opd_i0 fun _ _ _ => .int _
theorem opd_mul : OpD m (rI CMul fun i j => .int (i * j)) mulD := opd_iC fun _ _ _ => .int _
theorem opd_div : OpD m (rI CDiv fun i j => .int (i / j)) divD := opd_iC fun _ _ _ => .int _
theorem opd_mod : OpD m (rI (fun _ j => 0 < j) fun i j => .int (i % j)) modD := opd_iC (C := fun _ j => 0 < j) fun _ _ _ => .int _
theorem opd_pow : OpD m (rI CPow fun i j => .int (i ^ j.toNat)) powD := opd_iC fun _ _ _ => .int _
theorem opd_lt : OpD m (rI0 fun i j => .bl (decide (i < j))) ltD := opd_i0 fun _ _ _ => .bl _
theorem opd_le : OpD m (rI0 fun i j => .bl (decide (i ≤ j))) leD := opd_i0 fun _ _ _ => .bl _
theorem opd_gt : OpD m (rI0 fun i j => .bl (decide (j < i))) gtD := opd_i0 fun _ _ _ => .bl _
theorem opd_ge : OpD m (rI0 fun i j => .bl (decide (j ≤ i))) geD := opd_i0 fun _ _ _ => .bl _
theorem OpD.or {r r' : R2} {g g' : D → D → Option D} (h : OpD m r g) (h' : OpD m r' g') : OpD m (fun x y H Q => r x y H Q ∨ r' x y H Q) (fun a b => (g a b).or (g' a b)) := fun x y dx dy d H Q rx ry e k => by
  have e : (g dx dy).or (g' dx dy) = some d := e
  cases q : g dx dy with
  | some z =>
    rw [q] at e; cases e
    exact .inl (h x y dx dy _ H Q rx ry q k)
  | none =>
    rw [q] at e
    exact .inr (h' x y dx dy d H Q rx ry e k)
/-! ### + -/
def rCatF (K : PySem.W.Frag) : R2 := fun x y H Q => ∃ a b xs zs, x = .ref a ∧ y = .ref b ∧ SqF K H a xs ∧ SqF K H b zs ∧ xs.length + zs.length ≤ sizeLine ∧ ∀ p, H p = none → ∀ o, Q (.ref p) (upd H p (.frz o (.lst (xs ++ zs))))
theorem isL_of {X : Cx} {pins : List (Addr × Obj)} {σ : L2.St} {H : Hp} {s : Shared} {a : Addr} {xs : List V} (I : Inv X pins σ H s) (h : SqF X.K H a xs) : ∃ (its : List Value) (n : Nat), Vals xs its ∧ IsL s.heap a its.toArray n := by
  rcases h with ⟨o, h⟩ | ⟨its, n, h1, h2, h3⟩
  · obtain ⟨_, _, its, n, r, e⟩ := (show ObjOk X.prog X.w H s.heap a (.frz o (.lst xs)) from I.hok a _ h)
    exact ⟨its, n, r, e⟩
  · exact ⟨its.toList, n, h3, by simpa using I.kIn a _ h1⟩
theorem op_catF {X : Cx} : OpR X (binaryOp .Add) (rCatF X.K) := by
  intro pins s σ H x y v u Q I rx ry ⟨a, b, xs, zs, ex, ey, ha, hb, hz, q⟩
  subst ex; subst ey
  cases rx; cases ry
  obtain ⟨i1, n1, r1, e1⟩ := isL_of I ha
  obtain ⟨i2, n2, r2, e2⟩ := isL_of I hb
  have hl : i1.toArray.size + i2.toArray.size ≤ sizeLine := by
    have := r1.length; have := r2.length
    simp only [List.size_toArray]; omega
  refine PySem.P.add_list e1 e2 ?_ hl
  have J := I.lnew (t' := s.toks) (r1.append r2) (by rw [List.length_append]; exact hz)
  have ea : i1.toArray ++ i2.toArray = (i1 ++ i2).toArray := by simp
  rw [ea]
  obtain ⟨od, J2⟩ := J.lock upd_same trivial
  have q2 := q _ I.fresh od
  have eu : upd (upd H s.heap.objs.size (.lst (xs ++ zs))) s.heap.objs.size (.frz od (.lst (xs ++ zs))) = upd H s.heap.objs.size (.frz od (.lst (xs ++ zs))) := upd_upd
  rw [eu] at J2
  exact ⟨.ref _, _, J2, rfl, q2⟩
def rAdd (K : PySem.W.Frag) : R2 := fun x y H Q => (rI0 fun i j => .int (i + j)) x y H Q ∨ ((fun x y H Q => ∃ i j, x = .str i ∧ y = .str j ∧ i.length + j.length ≤ sizeLine ∧ Q (.str (i ++ j)) H) x y H Q ∨ (rCatF K x y H Q ∨ rCatA K x y H Q))
theorem op_addU {X : Cx} : OpR X (binaryOp .Add) (rAdd X.K) := op_add.or (op_add_str.or (op_catF.or op_catA))
def addD : D → D → Option D
  | .int i, .int j => some (.int (i + j))
  | .str i, .str j => if i.length + j.length ≤ sizeLine then some (.str (i ++ j)) else none
  | .lst xs, .lst ys => if xs.length + ys.length ≤ sizeLine then some (.lst (xs ++ ys)) else none
  | .tup xs, .tup ys => if xs.length + ys.length ≤ sizeLine then some (.tup (xs ++ ys)) else none
  | _, _ => none
theorem opd_add : OpD m (rAdd m.K) addD := fun x y dx dy d H Q rx ry e k => by
  cases rx with
  | int i =>
    cases ry with
    | int j => cases e; exact .inl ⟨i, j, rfl, rfl, k _ H Grow.rfl (.int _)⟩
    | _ => cases e
  | str i =>
    cases ry with
    | str j =>
      have e : (if i.length + j.length ≤ sizeLine then some (D.str (i ++ j)) else none) = some d := e
      by_cases c : i.length + j.length ≤ sizeLine
      · rw [if_pos c] at e; cases e; exact .inr (.inl ⟨i, j, rfl, rfl, c, k _ H Grow.rfl (.str _)⟩)
      · rw [if_neg c] at e; cases e
    | _ => cases e
  | @lst _ v1 xs qa ra =>
    cases ry with
    | @lst _ v2 ys qb rb =>
      have e : (if xs.length + ys.length ≤ sizeLine then some (D.lst (xs ++ ys)) else none) = some d := e
      by_cases c : xs.length + ys.length ≤ sizeLine
      · rw [if_pos c] at e
        cases e
        refine .inr (.inr (.inl ⟨_, _, _, _, rfl, rfl, qa, qb, by rw [ra.len, rb.len]; exact c, fun p hp o => ?_⟩))
        have g := Grow.new (o := .frz o (.lst (v1 ++ v2))) hp
        exact k _ _ g (.lst (.inl ⟨o, upd_same⟩) ((ra.st g.stable).append (rb.st g.stable)))
      · rw [if_neg c] at e; cases e
    | _ => cases e
  | @tup _ v1 xs qa ra =>
    cases ry with
    | @tup _ v2 ys qb rb =>
      have e : (if xs.length + ys.length ≤ sizeLine then some (D.tup (xs ++ ys)) else none) = some d := e
      by_cases c : xs.length + ys.length ≤ sizeLine
      · rw [if_pos c] at e
        cases e
        have ne : ∀ {vs : List V} {ds : List D}, RepL m H vs ds → (vs = [] ↔ ds = []) := fun r => by
          cases r <;> simp
        refine .inr (.inr (.inr ⟨_, _, _, _, rfl, rfl, qa, qb, by rw [ra.len, rb.len]; exact c, fun z => ?_, fun _ z => ?_, fun _ _ p hp => ?_⟩))
        · have z' := (ne ra).mp z
          subst z'
          exact k _ H Grow.rfl (.tup qb rb)
        · have z' := (ne rb).mp z
          subst z'
          rw [List.append_nil] at k
          exact k _ H Grow.rfl (.tup qa ra)
        · have g := Grow.new (o := .tup (v1 ++ v2)) hp
          exact k _ _ g (.tup (SqT.of upd_same) ((ra.st g.stable).append (rb.st g.stable)))
      · rw [if_neg c] at e; cases e
    | _ => cases e
  | _ => cases e
/-! ### places -/
def ixD (x i : D) : Option D := match x, i with
  | .lst xs, .int i => atI xs i
  | .tup xs, .int i => atI xs i
  | .str z, .int i => if z.length ≤ sizeLine then (atI z.cps.toList i).map fun c => .str ⟨#[c]⟩ else none
  | _, _ => none
theorem atI_rep {H : Hp} {vs : List V} {ds : List D} {i : Int} {d : D} (r : RepL m H vs ds) (h : atI ds i = some d) : ∃ v, atI vs i = some v ∧ Rep m H v d := by
  unfold atI at h ⊢
  rw [r.len]
  cases e : ixN ds.length i with
  | none => rw [e] at h; cases h
  | some j =>
    rw [e] at h
    obtain ⟨v, h1, h2⟩ := r.get (show ds[j]? = some d from h)
    exact ⟨v, h1, h2⟩
theorem opd_ix : OpD m (rIx m.K) ixD := fun x y dx dy d H Q rx ry e k => by
  cases rx with
  | lst qa ra =>
    cases ry with
    | int i =>
      obtain ⟨v, h1, h2⟩ := atI_rep ra e
      exact .inl ⟨_, _, i, v, rfl, rfl, qa.sq, h1, k v H Grow.rfl h2⟩
    | _ => cases e
  | tup qa ra =>
    cases ry with
    | int i =>
      obtain ⟨v, h1, h2⟩ := atI_rep ra e
      exact .inr (.inl ⟨_, _, i, v, rfl, rfl, qa, h1, k v H Grow.rfl h2⟩)
    | _ => cases e
  | str z =>
    cases ry with
    | int i =>
      unfold ixD at e
      by_cases c : z.length ≤ sizeLine
      · simp only [c, if_true] at e
        cases q : atI z.cps.toList i with
        | none => rw [q] at e; cases e
        | some w =>
          rw [q] at e; cases e
          exact .inr (.inr ⟨z, i, w, rfl, rfl, c, q, k _ H Grow.rfl (.str _)⟩)
      · simp only [c, if_false] at e; cases e
    | _ => cases e
  | _ => cases e
def ixO (xs : List D) (i : D) : Option D := match i with
  | .int i => atI xs i
  | _ => none
/-! ### builtins -/
def lenD : List D → Option D
  | [.lst xs] => some (.int xs.length)
  | [.tup xs] => some (.int xs.length)
  | [.str z] => if z.length ≤ sizeLine then some (.int z.length) else none
  | _ => none
theorem one_of {H : Hp} {vs : List V} {d : D} (r : RepL m H vs [d]) : ∃ v, vs = [v] ∧ Rep m H v d := by
  cases r with
  | cons a b => cases b; exact ⟨_, rfl, a⟩
theorem two_of {H : Hp} {vs : List V} {d e : D} (r : RepL m H vs [d, e]) : ∃ v w, vs = [v, w] ∧ Rep m H v d ∧ Rep m H w e := by
  cases r with
  | cons a b =>
    cases b with
    | cons b c => cases c; exact ⟨_, _, rfl, a, b⟩
theorem cd_len : CallD m (fun xs H Q => ∃ x n, xs = [x] ∧ LenV m.K x H n ∧ Q (.int n) H) lenD := fun vs ds d H Q r e k => by
  unfold lenD at e
  split at e
  · obtain ⟨v, rfl, rv⟩ := one_of r
    cases e
    cases rv with
    | lst q rl => exact ⟨_, _, rfl, .inl ⟨_, q.sq, rl.len.symm⟩, k _ H Grow.rfl (.int _)⟩
  · obtain ⟨v, rfl, rv⟩ := one_of r
    cases e
    cases rv with
    | tup q rl => exact ⟨_, _, rfl, .inr ⟨_, q, rl.len.symm⟩, k _ H Grow.rfl (.int _)⟩
  · obtain ⟨v, rfl, rv⟩ := one_of r
    split at e
    · rename_i c
      cases e
      cases rv
      exact ⟨_, _, rfl, ⟨c, rfl⟩, k _ H Grow.rfl (.int _)⟩
    · cases e
  · cases e
def intsOf : List D → Option (List Int)
  | [] => some []
  | .int i :: r => (intsOf r).map (i :: ·)
  | _ => none
theorem ints_rep {H : Hp} : ∀ {ds : List D} {vs : List V} {ns : List Int}, RepL m H vs ds → intsOf ds = some ns → vs = ns.map V.int
  | [], vs, ns, r, e => by cases e; cases r; rfl
  | d :: ds, vs, ns, r, e => by
    cases r with
    | cons a b =>
      cases a with
      | int i =>
        unfold intsOf at e
        cases q : intsOf ds with
        | none => rw [q] at e; cases e
        | some l => rw [q] at e; cases e; rw [ints_rep b q]; rfl
      | _ => cases e
def boolsOf : List D → Option (List Bool)
  | [] => some []
  | .bl i :: r => (boolsOf r).map (i :: ·)
  | _ => none
theorem bools_rep {H : Hp} : ∀ {ds : List D} {vs : List V} {ns : List Bool}, RepL m H vs ds → boolsOf ds = some ns → vs = ns.map V.bl
  | [], vs, ns, r, e => by cases e; cases r; rfl
  | d :: ds, vs, ns, r, e => by
    cases r with
    | cons a b =>
      cases a with
      | bl i =>
        unfold boolsOf at e
        cases q : boolsOf ds with
        | none => rw [q] at e; cases e
        | some l => rw [q] at e; cases e; rw [bools_rep b q]; rfl
      | _ => cases e
def allD : List D → Option D
  | [.lst xs] => (boolsOf xs).map fun bs => .bl (bs.all id)
  | _ => none
def anyD : List D → Option D
  | [.lst xs] => (boolsOf xs).map fun bs => .bl (bs.any id)
  | _ => none
theorem cd_all : CallD m (rAll m.K) allD := fun vs ds d H Q r e k => by
  unfold allD at e
  split at e
  · obtain ⟨v, rfl, rv⟩ := one_of r
    rename_i xs
    cases q : boolsOf xs with
    | none => rw [q] at e; cases e
    | some bs =>
      rw [q] at e; cases e
      cases rv with
      | lst qa rl =>
        have := bools_rep rl q
        subst this
        exact ⟨_, bs, rfl, qa.sq, k _ H Grow.rfl (.bl _)⟩
  · cases e
/-- the greatest, the least of ints -/
def maxI : List Int → Option Int
  | [] => none
  | x :: r => some (r.foldl max x)
theorem foldl_max : ∀ (r : List Int) (x : Int), (r.foldl max x = x ∨ r.foldl max x ∈ r) ∧ x ≤ r.foldl max x ∧ ∀ y ∈ r, y ≤ r.foldl max x
  | [], x => ⟨.inl rfl, Int.le_refl _, fun y h => by cases h⟩
  | a :: r, x => by
    obtain ⟨h1, h2, h3⟩ := foldl_max r (max x a)
    rw [List.foldl_cons]
    refine ⟨?_, by omega, fun y hy => ?_⟩
    · rcases h1 with h1 | h1
      · by_cases c : x ≤ a
        · right; rw [h1, show max x a = a by omega]; exact List.mem_cons_self
        · left; rw [h1]; omega
      · right; exact List.mem_cons_of_mem _ h1
    · rcases List.mem_cons.mp hy with rfl | hy
      · omega
      · exact h3 y hy
theorem maxI_uniq {ns : List Int} {z w : Int} (h : maxI ns = some z) (h1 : w ∈ ns) (h2 : ∀ y ∈ ns, y ≤ w) : w = z := by
  cases ns with
  | nil => cases h
  | cons x r =>
    cases h
    obtain ⟨g1, g2, g3⟩ := foldl_max r x
    have a : r.foldl max x ≤ w := by
      rcases g1 with g | g
      · rw [g]; exact h2 x List.mem_cons_self
      · exact h2 _ (List.mem_cons_of_mem _ g)
    have b : w ≤ r.foldl max x := by
      rcases List.mem_cons.mp h1 with rfl | h
      · exact g2
      · exact g3 w h
    omega
def maxLD : List D → Option D
  | [.lst xs] => (intsOf xs).bind fun ns => (maxI ns).map .int
  | _ => none
theorem maxI_pos {ns : List Int} {z : Int} (h : maxI ns = some z) : 0 < ns.length := by cases ns <;> simp [maxI] at h ⊢
theorem cd_maxL : CallD m (rMax m.K) maxLD := fun vs ds d H Q r e k => by
  unfold maxLD at e
  split at e
  · obtain ⟨v, rfl, rv⟩ := one_of r
    rename_i xs
    cases q : intsOf xs with
    | none => rw [q] at e; cases e
    | some ns =>
      rw [q] at e
      cases q2 : maxI ns with
      | none => simp [q2] at e
      | some z =>
        simp [q2] at e; subst e
        cases rv with
        | lst qa rl =>
          have := ints_rep rl q
          subst this
          exact ⟨_, ns, rfl, qa.sq, maxI_pos q2, fun w h1 h2 => by rw [maxI_uniq q2 h1 h2]; exact k _ H Grow.rfl (.int _)⟩
  · cases e
def max2D : List D → Option D
  | [.int i, .int j] => some (.int (if j > i then j else i))
  | _ => none
def intCD : List D → Option D
  | [.int i] => some (.int i)
  | [.bl k] => some (.int (if k then 1 else 0))
  | _ => none
theorem cd_max2 : CallD m (fun xs H Q => ∃ i j, xs = [.int i, .int j] ∧ Q (.int (if j > i then j else i)) H) max2D := fun vs ds d H Q r e k => by
  unfold max2D at e
  split at e
  · obtain ⟨v, w, rfl, rv, rw'⟩ := two_of r
    cases e; cases rv; cases rw'
    exact ⟨_, _, rfl, k _ H Grow.rfl (.int _)⟩
  · cases e
theorem cd_int : CallD m (fun xs H Q => (∃ i, xs = [.int i] ∧ Q (.int i) H) ∨ ∃ k, xs = [.bl k] ∧ Q (.int (if k then 1 else 0)) H) intCD := fun vs ds d H Q r e k => by
  unfold intCD at e
  split at e
  · obtain ⟨v, rfl, rv⟩ := one_of r
    cases e; cases rv
    exact .inl ⟨_, rfl, k _ H Grow.rfl (.int _)⟩
  · obtain ⟨v, rfl, rv⟩ := one_of r
    cases e; cases rv
    exact .inr ⟨_, rfl, k _ H Grow.rfl (.int _)⟩
  · cases e
def listCD : List D → Option (List D)
  | [.lst xs] => some xs
  | [.tup xs] => some xs
  | _ => none
end
end DL
end
section
namespace DL
open PySem PySem.Spec L2
open PyProof.Rows hiding St
section
variable {m : Md}
/-! ### methods that change an own list -/
def appD : List D → List D → Option (D × List D) := fun xs as => match as with
  | [y] => if xs.length < sizeLine then some (.non, xs ++ [y]) else none
  | _ => none
theorem mo_append : MtO m rAppend appD := fun a vs args xs ds d ys H Q ha r ra e k => by
  unfold appD at e
  split at e
  · obtain ⟨v, rfl, rv⟩ := one_of ra
    split at e
    · rename_i c
      cases e
      exact ⟨a, vs, v, rfl, rfl, ha, by rw [r.len]; exact c, k .non _ (r.append (.cons rv .nil)) .non⟩
    · cases e
  · cases e
theorem RepL.dropLast {H : Hp} : ∀ {vs : List V} {ds : List D}, RepL m H vs ds → RepL m H vs.dropLast ds.dropLast
  | _, [], h => by cases h; exact .nil
  | _, [d], h => by
    cases h with
    | cons a b => cases b; exact .nil
  | _, d :: e :: ds, h => by
    cases h with
    | cons a b =>
      cases b with
      | cons b c => exact .cons a (RepL.dropLast (.cons b c))
theorem RepL.eraseIdx {H : Hp} : ∀ {vs : List V} {ds : List D} (j : Nat), RepL m H vs ds → RepL m H (vs.eraseIdx j) (ds.eraseIdx j)
  | _, [], j, h => by cases h; exact .nil
  | _, d :: ds, 0, h => by
    cases h with
    | cons a b => exact b
  | _, d :: ds, j + 1, h => by
    cases h with
    | cons a b => exact .cons a (RepL.eraseIdx j b)
def extD : List D → List D → Option (D × List D) := fun xs as => match as with
  | [.lst ys] => if xs.length + ys.length ≤ sizeLine then some (.non, xs ++ ys) else none
  | _ => none
/-! ### methods that read a list -/
end
section
variable {X : Cx} {G : Gh} {W : WX} {e : Expr} {es : List Expr} {pos : Pos}
/-- x.m(..), x data -/
def MtV (m : Md) (r : V → List V → Hp → VK → Prop) (g : D → List D → Option D) : Prop :=
  ∀ (x : V) (vs : List V) (dx d : D) (ds : List D) (H : Hp) (Q : VK), Rep m H x dx → RepL m H vs ds → g dx ds = some d → (∀ v H', Grow H H' → Rep m H' v d → Q v H') → r x vs H Q
def tyD (T : String) : D → Bool
  | .str _ => T == "str"
  | .int _ => T == "int"
  | .lst _ => T == "list"
  | _ => false
def tyM (T : String) (f : M D) : M D := bindM f fun d => if tyD T d = true then pureM d else stuckM
def mtV (T : String) (g : D → List D → Option D) (fo : M D) (fa : M (List D)) : M D := bindM (tyM T fo) fun x => bindM fa fun ds => liftM (g x ds)
theorem tyD_ok {m : Md} {H : Hp} {v : V} {d : D} {T : String} (r : Rep m H v d) (h : tyD T d = true) : tyV m.K T v H := by
  cases r with
  | int i => exact (beq_iff_eq.mp h)
  | str i => exact (beq_iff_eq.mp h)
  | lst q rl => exact .inl ⟨beq_iff_eq.mp h, _, q.sq⟩
  | _ => exact absurd h (by simp [tyD])
theorem mtV_run {T : String} {r : V → List V → Hp → VK → Prop} {g : D → List D → Option D} {to : TE} {t : TA} {fo : M D} {fa : M (List D)} (hK : G.m.K = X.K) (hr : MtV G.m r g) (io : ∀ σ H Q, dT G W fo σ H Q → to σ H Q) (ia : ∀ σ H Q, aT G W fa σ H Q → t σ H Q) {σ : L2.St} {H : Hp} {Q : VK} (h : dT G W (mtV T g fo fa) σ H Q) : tBM X.K T r to t σ H Q := by
  obtain ⟨ρ, k, q⟩ := h
  refine io _ _ _ ⟨ρ, k, q.bind.bind.mono fun d ρ1 H1 _ s1 k1 q1 v rv => ?_⟩
  by_cases c : tyD T d = true
  · rw [if_pos c] at q1
    refine ⟨by rw [← hK]; exact tyD_ok rv c, ia _ _ _ ⟨ρ1, k1, (q1 H1 Stable.rfl k1).bind.mono fun ds ρ2 H2 _ s2 k2 q2 vs rs => ?_⟩⟩
    obtain ⟨z, e, q3⟩ := q2.lift k2
    exact hr v vs d z ds H2 Q (rv.st s2) rs e fun u H3 g3 r3 => q3 H3 g3.stable (k2.grow g3) u r3
  · rw [if_neg c] at q1; exact q1.elim
theorem de_bm {o : Expr} {name : Str} {apos : Pos} {T id : String} {r : V → List V → Hp → VK → Prop} {g : D → List D → Option D} {fo : M D} {fa : M (List D)} (hK : G.m = ⟨X.K, X.mg, X.w⟩) (pa : PlainAttrs T) (slot : Slot T name id) (hty : typeOf (.builtin id) = pure (.type "method_descriptor")) (hm : MtR X id r) (hr : MtV G.m r g) (ho : DE X G W o fo) (ha : DA X G W (e :: es) fa)
    (hbase : attributeBase o name X.env (eval o X.env) = eval o X.env := by rfl)
    (hfew : ((backTo pos (starEach (e :: es) X.env)).all (fun x => !x.1) && (backToKw pos (keywordEach [] X.env)).all (fun x => x.1.isSome)
      && decide ((e :: es).length + ([] : List Keyword).length + (if ([] : List Keyword).isEmpty then 0 else 1) < 30)) = true := by rfl)
    (hline : (apos.endLine == pos.line) = true := by rfl) (hs : starEach (e :: es) X.env = (false, eval e X.env) :: starEach es X.env := by rfl) (hplain : (backTo pos (starEach es X.env)).any (·.1) = false := by rfl) :
    DE X G W (.Call (.Attribute o name apos) (e :: es) [] pos) (mtV T g fo fa) :=
  pe_imp (pe_bm pa slot hty hm ho ha hbase hfew hline hs hplain) fun σ H Q h => mtV_run (by rw [hK]) hr (fun _ _ _ z => z) (fun _ _ _ z => z) h
/-! ### isinstance of data -/
def isTy (T : String) : D → Option Bool
  | .non => some false
  | .bl _ => some (T == "bool" || T == "int")
  | .int _ => some (T == "int")
  | .str _ => some (T == "str")
  | .lst _ => some (T == "list")
  | .tup _ => some (T == "tuple")
  | .dic ks _ => if ks.all isK = true then some (T == "dict") else none
  | .ins _ _ _ => none
def okTy (T : String) : Bool := ["int", "bool", "str", "list", "tuple", "dict"].contains T
theorem kit_ty {K : PySem.W.Frag} {m : Md} (hK : m.K = K) {H : Hp} {v : V} {d : D} {T : String} {b : Bool} (hT : okTy T = true) (r : Rep m H v d) (h : isTy T d = some b) : ∃ t, TyX K H v t ∧ PySem.W.kitOne K t (.type T) = some b := by
  subst hK
  have cs : T = "int" ∨ T = "bool" ∨ T = "str" ∨ T = "list" ∨ T = "tuple" ∨ T = "dict" := by simpa [okTy] using hT
  cases r with
  | non => exact ⟨_, .base .non, by rcases cs with rfl | rfl | rfl | rfl | rfl | rfl <;> (cases h; rfl)⟩
  | bl x => exact ⟨_, .base (.bl x), by rcases cs with rfl | rfl | rfl | rfl | rfl | rfl <;> (cases h; rfl)⟩
  | int x => exact ⟨_, .base (.int x), by rcases cs with rfl | rfl | rfl | rfl | rfl | rfl <;> (cases h; rfl)⟩
  | str x => exact ⟨_, .base (.str x), by rcases cs with rfl | rfl | rfl | rfl | rfl | rfl <;> (cases h; rfl)⟩
  | lst q rl =>
    have fin : PySem.W.kitOne m.K (.type "list") (.type T) = some b := by rcases cs with rfl | rfl | rfl | rfl | rfl | rfl <;> (cases h; rfl)
    rcases q with ⟨o, q⟩ | ⟨its, n, q, _⟩
    · exact ⟨_, .base (.frz q), fin⟩
    · exact ⟨_, .kList q rfl, fin⟩
  | tup q rl =>
    have fin : PySem.W.kitOne m.K (.type "tuple") (.type T) = some b := by rcases cs with rfl | rfl | rfl | rfl | rfl | rfl <;> (cases h; rfl)
    rcases q with (q | ⟨o, q⟩) | ⟨o, its, n, q, c, _⟩
    · exact ⟨_, .base (.tup q), fin⟩
    · exact ⟨_, .fTuple q, fin⟩
    · exact ⟨_, .kTuple q c, fin⟩
  | dicK q rl =>
    rename_i a o kvs ds
    by_cases c : (kvs.map fun p => keyD p.1).all isK = true
    · simp only [isTy, c, if_true] at h
      exact ⟨_, .fDict q, by rcases cs with rfl | rfl | rfl | rfl | rfl | rfl <;> (cases h; rfl)⟩
    · simp only [isTy, c] at h; cases h
  | dicN q n e r1 r2 =>
    rename_i a o kvs ks ds
    by_cases c : ks.all isK = true
    · exact (notK r1 n c).elim
    · simp only [isTy, c] at h; cases h
  | ins => cases h
def isiM (T : String) (f : M D) : M D := bindM f fun d => liftM ((isTy T d).map .bl)
theorem de_isi {T : Str} {Ts : String} {p p2 : Pos} {f : M D} (hK : G.m = ⟨X.K, X.mg, X.w⟩) (hT : okTy Ts = true) (hg : Gl X "isinstance") (hm : X.mg "isinstance" = none) (hgT : Gl X T) (hmT : X.mg T = none) (hv : bootBuiltins T = some (.type Ts)) (ha : DE X G W e f) (hn : T ≠ "__name__" := by decide) (hd : (T == ("__debug__" : Str)) = false := by decide)
    (hs : starEach (e :: [.Name T p2]) X.env = (false, eval e X.env) :: starEach [.Name T p2] X.env := by rfl) (hs2 : starEach (.Name T p2 :: []) X.env = (false, eval (.Name T p2) X.env) :: starEach [] X.env := by rfl)
    (hpl : (backTo pos (starEach [.Name T p2] X.env)).any (·.1) = false := by rfl) : DE X G W (.Call (.Name "isinstance" p) [e, .Name T p2] [] pos) (isiM Ts f) :=
  pe_imp (pe_callB call_isi hg hm (by decide +kernel) (pa_cons ha (pa_cons (pe_bltn (v := .ty Ts) hgT hmT hv rfl hn hd) pa_nil hs2) hs) (by decide) (by decide) hs hpl) fun σ H Q ⟨ρ, k, q⟩ => ⟨ρ, k, q.bind.mono fun d ρ1 H1 _ s1 k1 q1 v r => by
    obtain ⟨z, e, q3⟩ := q1.lift k1
    cases q : isTy Ts d with
    | none => rw [q] at e; cases e
    | some b =>
      rw [q] at e; cases e
      obtain ⟨t, h1, h2⟩ := kit_ty (K := X.K) (by rw [hK]) hT r q
      exact ⟨v, _, t, _, b, rfl, .ty Ts, h1, h2, q3 H1 Stable.rfl k1 _ (.bl b)⟩⟩
end
end DL
end
section
namespace DL
open PySem PySem.Spec L2
open PyProof.Rows hiding St

/-! ### try .. except X as e -/
section
variable {G : Gh} {σ : L2.St} {H : Hp} {ρ : DL.Env}
theorem StOk.setNo (k : StOk G σ H ρ) {i : Nat} (hp : pfree G i) : StOk G (σ.set i none) H (ρ.set i .no) := by
  have nin : ∀ {j : Nat} {s : Sl}, (ρ.set i .no)[j]? = some s → s ≠ .no → i ≠ j ∧ ρ[j]? = some s := fun {j s} h hs => by
    rcases set_get h with ⟨_, e, _⟩ | ⟨e, h⟩
    · exact absurd e hs
    · exact ⟨e, h⟩
  refine ⟨by simp [k.len], fun j x h => ?_, fun j xs h => ?_, fun j l xs ys b ne h1 h2 h3 => ?_, fun p hm => ?_, k.keep, fun j c h => ?_⟩
  · obtain ⟨n, h⟩ := nin h (fun z => by cases z)
    rw [List.getElem?_set_ne n]; exact k.dat j x h
  · obtain ⟨n, h⟩ := nin h (fun z => by cases z)
    rw [List.getElem?_set_ne n]; exact k.own j xs h
  · obtain ⟨n1, h1⟩ := nin h1 (fun z => by cases z)
    obtain ⟨n2, h2⟩ := nin h2 (fun z => by cases z)
    rw [List.getElem?_set_ne n1] at h3
    rw [List.getElem?_set_ne n2]; exact k.sep j l xs ys b ne h1 h2 h3
  · obtain ⟨q1, xs, q2⟩ := k.prot p hm
    have n : i ≠ p.1 := fun z => hp p hm z.symm
    exact ⟨by rw [List.getElem?_set_ne n]; exact q1, xs, by rw [List.getElem?_set_ne n]; exact q2⟩
  · obtain ⟨n, h⟩ := nin h (fun z => by cases z)
    rw [List.getElem?_set_ne n]; exact k.exn j c h
def Gh.hot (G : Gh) (a : Addr) (c : Str) : Gh := { G with ex := some (a, c) }
theorem StOk.heat (k : StOk G σ H ρ) {i : Nat} {a : Addr} {c : Str} (hx : G.ex = none) (hp : pfree G i) : StOk (G.hot a c) (σ.set i (some (.ref a))) H (ρ.set i (.exn c)) := by
  have nin : ∀ {j : Nat} {s : Sl}, (ρ.set i (.exn c))[j]? = some s → (∀ c', s ≠ .exn c') → i ≠ j ∧ ρ[j]? = some s := fun {j s} h hs => by
    rcases set_get h with ⟨_, e, _⟩ | ⟨e, h⟩
    · exact absurd e (hs c)
    · exact ⟨e, h⟩
  refine ⟨by simp [k.len], fun j x h => ?_, fun j xs h => ?_, fun j l xs ys b ne h1 h2 h3 => ?_, fun p hm => ?_, k.keep, fun j c' h => ?_⟩
  · obtain ⟨n, h⟩ := nin h (fun _ z => by cases z)
    rw [List.getElem?_set_ne n]; exact k.dat j x h
  · obtain ⟨n, h⟩ := nin h (fun _ z => by cases z)
    rw [List.getElem?_set_ne n]; exact k.own j xs h
  · obtain ⟨n1, h1⟩ := nin h1 (fun _ z => by cases z)
    obtain ⟨n2, h2⟩ := nin h2 (fun _ z => by cases z)
    rw [List.getElem?_set_ne n1] at h3
    rw [List.getElem?_set_ne n2]; exact k.sep j l xs ys b ne h1 h2 h3
  · obtain ⟨q1, xs, q2⟩ := k.prot p hm
    have n : i ≠ p.1 := fun z => hp p hm z.symm
    exact ⟨by rw [List.getElem?_set_ne n]; exact q1, xs, by rw [List.getElem?_set_ne n]; exact q2⟩
  · rcases set_get h with ⟨e, e2, hl⟩ | ⟨e, h⟩
    · cases e2; subst e
      exact ⟨a, rfl, by rw [List.getElem?_set_self (by rw [k.len]; exact hl)]⟩
    · obtain ⟨b, h1, _⟩ := k.exn j c' h
      rw [hx] at h1; cases h1
/-- the suite is left: no slot holds the exception any more -/
def noExn (ρ : DL.Env) : Bool := ρ.all fun s => match s with
  | .exn _ => false
  | _ => true
theorem StOk.cool {a : Addr} {c : Str} (k : StOk (G.hot a c) σ H ρ) (h : noExn ρ = true) : StOk G σ H ρ :=
  ⟨k.len, k.dat, k.own, k.sep, k.prot, k.keep, fun i c' e => by
    have := List.all_eq_true.mp h _ (List.mem_of_getElem? e)
    simp at this⟩
end
/-- slot i holds the exception in the suite; sub: whether the clause's class is over the exception's -/
def tryM (i : Nat) (sub : Str → Option Bool) (body : MS) (suite : Str → MS) : MS := fun ρ => match body ρ with
  | .exc c ρ1 => match sub c with
    | some true => (match suite c (ρ1.set i (.exn c)) with
      | .ok fl ρ2 => if noExn (ρ2.set i .no) = true then .ok fl (ρ2.set i .no) else .stuck
      | _ => .stuck)
    | some false => .exc c ρ1
    | none => .stuck
  | r => r
theorem RetOk.hot {rm : RM} {G : Gh} {a : Addr} {c : Str} {H : Hp} {v : V} {d : D} (r : RetOk rm (G.hot a c) H v d) : RetOk rm G H v d := by
  cases rm <;> exact r
section
variable {X : Cx} {G : Gh} {W : WX} {rm : RM}
theorem ds_try (i : Nat) {x n : Str} {cv : Value} {sub : Str → Option Bool} {body suite : List Stmt} {b0 : Stmt} {np pos pos' : Pos} {bm : MS} {sm : Str → MS} (hx : G.ex = none) (hGK : G.m = ⟨X.K, X.mg, X.w⟩) (pf : pfree G i) (hsub : ∀ (c : Str) (C : Addr) (b : Bool), X.mg c = some (.ref C) → sub c = some b → PySem.W.exmOne X.K (.ref C) cv = some b)
    (hs : X.stack = X.env :: X.outer) (hf : X.env.frame = some X.env.locals) (hN : X.N.Nodup) (hi : X.N[i]? = some n) (hln : X.env.kindOf n = some .local) (hc : Names X x cv) (tk : Takes X W)
    (hb : ∀ (W' : WX) (pn : List (Addr × Obj)) (xe : Value → Shared → Prop), Takes (X.tr pn xe) W' → PassesOwn (model X.prog X.w) X.A X.env xe → DSs (X.tr pn xe) G W' rm body bm)
    (hsu : ∀ (a : Addr) (oe : Obj) (C : Addr) (c : Str) (pn : List (Addr × Obj)), X.mg c = some (.ref C) → sub c = some true → Zc (.ref C) none oe → (∃ vs, oe.data = .fields vs) → DSs (X.suite a ((a, oe) :: pn)) ⟨G.m, G.H0, G.pr, some (a, c)⟩ W0 rm (b0 :: suite) (sm c)) :
    DS X G W rm (.Try body [.ExceptHandler (some (.Name x np)) (some n) (b0 :: suite) pos'] [] [] pos) (tryM i sub bm sm) := by
  refine ps_imp (ps_try_as (ts := fun a cls d E σ H => ∃ (C : Addr) (c : Str), cls = .ref C ∧ d = none ∧ X.mg c = some (.ref C) ∧ sub c = some true ∧ sT (G.hot a c) W0 rm (sm c) E σ H) hs hf hN hi hln hc tk hb
    (fun a oe cls d pn hz hv => ⟨fun pins s σ H E I ⟨C, c, e1, e2, e3, e4, q⟩ => ?_⟩)) fun E σ H ⟨ρ, k, q⟩ => ?_
  · subst e1; subst e2
    exact (hsu a oe C c pn e3 e4 hz hv).run pins s σ H E I q
  · refine ⟨ρ, k, ?_⟩
    unfold tryM at q
    cases e : bm ρ with
    | ok fl ρ1 => rw [e] at q; cases fl <;> exact q
    | stuck => rw [e] at q; exact q
    | exc c ρ1 =>
      simp only [e] at q
      intro σ1 C H1 eC s1 k1
      have eC' : X.mg c = some (.ref C) := by rw [hGK] at eC; exact eC
      cases e2 : sub c with
      | none => simp only [e2] at q; exact q.elim
      | some b =>
        refine ⟨b, hsub c C b eC' e2, fun hb a ha => ?_, fun hb => ?_⟩
        · subst hb
          simp only [e2] at q
          refine ⟨C, c, rfl, rfl, eC', e2, ρ1.set i (.exn c), k1.heat hx pf, ?_⟩
          cases e3 : sm c (ρ1.set i (.exn c)) with
          | ok fl ρ2 =>
            simp only [e3] at q
            by_cases hn : noExn (ρ2.set i .no) = true
            · simp only [hn, if_true] at q
              cases fl with
              | nx => exact fun σ2 H2 s2 k2 => q _ H2 (s1.trans s2) ((StOk.setNo k2 pf).cool hn)
              | brk => exact fun σ2 H2 s2 k2 => q _ H2 (s1.trans s2) ((StOk.setNo k2 pf).cool hn)
              | ct => exact fun σ2 H2 s2 k2 => q _ H2 (s1.trans s2) ((StOk.setNo k2 pf).cool hn)
              | ret d => exact fun v σ2 H2 s2 k2 r => q v _ H2 (s1.trans s2) ((StOk.setNo k2 pf).cool hn) r.hot
            · simp only [hn] at q; exact q.elim
          | exc c2 ρ2 => simp only [e3] at q; exact q.elim
          | stuck => simp only [e3] at q; exact q.elim
        · subst hb
          simp only [e2] at q
          exact q σ1 C H1 eC s1 k1

/-! ### the handled exception: its class -/
def exnM (i : Nat) (g : Str → Option Bool) : M D := fun ρ => match ρ[i]? with
  | some (.exn c) => (match g c with
    | some b => .ok (.bl b) ρ
    | none => .stuck)
  | _ => .stuck
/-- what stands at the handled exception -/
structure HotX (X : Cx) (a : Addr) (C : Addr) (oe : Obj) : Prop where
  pn : (a, oe) ∈ X.pn
  zc : Zc (.ref C) none oe
  fl : ∃ vs, oe.data = .fields vs
theorem cr_isE {a C : Addr} {oe : Obj} (hx : HotX X a C oe) (ec : ExcC X.K C) : CallR X (.builtin "isinstance") (rIsE X.K C a) := by
  intro pins s σ H xs us Q I r ⟨c, cv, b, e1, hcv, e2, q⟩
  subst e1
  cases r with
  | cons r1 r =>
    cases r with
    | cons r2 r =>
      cases r; cases r1
      rw [hcv _ r2]
      obtain ⟨oc, od, dt, sl⟩ := oe
      obtain ⟨z1, z2⟩ := hx.zc
      obtain ⟨vs, z3⟩ := hx.fl
      dsimp only at z1 z2 z3
      subst z1; subst z2; subst z3
      have J : PySem.W.InstAt s.heap a { cls := .ref C, dict := none, data := .fields vs, slots := sl } C none := ⟨(I.pin _ (List.mem_append_left _ hx.pn)).1, rfl, rfl, trivial⟩
      have KX := PySem.W.handS_kitx_exc (x := a) (ox := { cls := .ref C, dict := none, data := .fields vs, slots := sl }) ec.hg ec.hk ec.hs ec.hd ec.ha ec.hn ec.ht ec.hm
      exact PySem.W.kia_one KX I.kIn J e2 (fun z => by cases z) fun tk => ⟨.bl b, H, I.kept (t' := tk) fun _ _ z => z, rfl, q⟩
/-- isinstance(e, c), e the handled exception in slot i; c a class of the module or a built-in one -/
theorem de_isE (i : Nat) {y : Str} {ce : Expr} {a C : Addr} {c : Str} {oe : Obj} {cV : V} {cv : Value} {g : Str → Option Bool} {p p2 pos : Pos} (hx : HotX X a C oe) (ec : ExcC X.K C) (hex : G.ex = some (a, c)) (hcls : PE X ce (tC cV)) (hcv : ∀ u, RelV cV u → u = cv) (hg' : ∀ b, g c = some b → PySem.W.kitOne X.K (.ref C) cv = some b)
    (hg : Gl X "isinstance") (hm : X.mg "isinstance" = none) (hN : X.N[i]? = some y) (hv : Vis X.env.scope y := by first | exact .inl rfl | exact .inr (.inl rfl) | exact .inr (.inr rfl)) (hd : (y == ("__debug__" : Str)) = false := by decide) (hcd : (y == ("__classdict__" : Str)) = false := by decide)
    (hs : starEach [.Name y p2, ce] X.env = (false, eval (.Name y p2) X.env) :: starEach [ce] X.env := by rfl) (hs2 : starEach [ce] X.env = (false, eval ce X.env) :: starEach [] X.env := by rfl) (hpl : (backTo pos (starEach [ce] X.env)).any (·.1) = false := by rfl) :
    DE X G W (.Call (.Name "isinstance" p) [.Name y p2, ce] [] pos) (exnM i g) :=
  pe_imp (pe_callB (cr_isE hx ec) hg hm (by decide +kernel) (pa_cons (pe_var (i := i) hN hv hd hcd) (pa_cons hcls pa_nil hs2) hs) (by decide) (by decide) hs hpl) fun σ H Q ⟨ρ, k, q⟩ => by
    unfold exnM at q
    cases e : ρ[i]? with
    | none => simp only [e] at q; exact q.elim
    | some s =>
      cases s with
      | exn c' =>
        simp only [e] at q
        obtain ⟨b, h1, h2⟩ := k.exn i c' e
        rw [hex] at h1
        cases h1
        cases e2 : g c with
        | none => simp only [e2] at q; exact q.elim
        | some bb =>
          simp only [e2] at q
          exact ⟨_, h2, cV, cv, bb, rfl, hcv, hg' bb e2, q H Stable.rfl k _ (.bl bb)⟩
      | no => simp only [e] at q; exact q.elim
      | d x => simp only [e] at q; exact q.elim
      | cell x => simp only [e] at q; exact q.elim

/-! ### a def called in the suite -/
structure FnX (P : Program) (w : World) (K : PySem.W.Frag) (mg : Str → Option Value) (base : Heap) (k : Nat) (f : Addr) (fd : FuncData) (ps : List Str) (p : Addr × Obj) (sp : Sp) : Prop where
  len : ∀ vs H Q E, sp vs H Q E → vs.length = ps.length
  run : ∀ (A : Around) (outer : List PySem.Env) (s : Shared) (H : Hp) (args : Args) (us : List Value) (vs : List V) (Q : VK) (E : XK), L2H.RoomH k A → L2H.PinOk outer H s p → Env0 P w K mg base A outer s H →
    BindsTo s fd args (ps.zip us) → Vals vs us → sp vs H Q E → codeAny (model P w) A (.call (.ref f) args) (CR CX0 outer P w H s Q E) s
/-- .. that raises nothing -/
def spX (m : Md) (ex : Option (Addr × Str)) (md : List Bool) (rm : RM) (f : Fn) : Sp := fun vs H Q _ => spD m ex md rm f vs H Q fun _ _ _ => False
end
end DL
end
section
namespace DL
open PySem PySem.Spec L2
open PyProof.Rows hiding St

/-! ### a def of the text, a def's promise, by name -/
def DefIn (K : PySem.W.Frag) (mg : Str → Option Value) (x : Str) (st : Stmt) (fA : Addr) (fd : FuncData) : Prop := mg x = some (.ref fA) ∧ FunD K x x (defArgs st) (defBody st) (defScope st) [] [] fA fd
structure DFn (P : Program) (w : World) (K : PySem.W.Frag) (mg : Str → Option Value) (base : Heap) (x : Str) (k : Nat) (md : List Bool) (rm : RM) (f : Fn) : Prop where
  ex : ∃ fA fd ps, mg x = some (.ref fA) ∧ PySem.W.keepIn K (.ref fA) = true ∧ Binds K fd ps [] ∧ FnOk P w K mg base (L2.CX P w) k fA fd ps (spD ⟨K, mg, w⟩ none md rm f)
theorem DFn.mono {P : Program} {w : World} {K : PySem.W.Frag} {mg : Str → Option Value} {base : Heap} {x : Str} {j k : Nat} {md : List Bool} {rm : RM} {f : Fn} (h : DFn P w K mg base x j md rm f) (hj : j ≤ k) : DFn P w K mg base x k md rm f := by
  obtain ⟨fA, fd, ps, h1, h2, h3, h4⟩ := h.ex
  exact ⟨fA, fd, ps, h1, h2, h3, h4.mono hj⟩
abbrev BindsF (x : Str) (st : Stmt) (ps : List Str) : Prop := ∀ (kV doc pm : Value) (an : Option Addr) (cdv ct : Value) (us : List Value), us.length = ps.length → bindArgs (PySem.W.fnOf x x (defArgs st) (defBody st) (defScope st) .none kV doc pm an cdv ct) ⟨us, []⟩ = pure (ps.zip us)
theorem dfn_stuck {P : Program} {w : World} {K : PySem.W.Frag} {mg : Str → Option Value} {base : Heap} {x : Str} {st : Stmt} {fA : Addr} {fd : FuncData} {k : Nat} {ps : List Str} {md : List Bool} {rm : RM} (Dn : DefIn K mg x st fA fd) (hb : BindsF x st ps) : DFn P w K mg base x k md rm fun _ => .stuck := by
  obtain ⟨h1, F⟩ := Dn
  exact ⟨fA, fd, ps, h1, F.kp, F.bindsN hb, fn_stuck⟩
theorem dfn_ok {P : Program} {w : World} {K : PySem.W.Frag} {mg : Str → Option Value} {base : Heap} {x : Str} {st : Stmt} {fA : Addr} {fd : FuncData} {k : Nat} {N ps : List Str} {md : List Bool} {rm : RM} {bm : MS} (Dn : DefIn K mg x st fA fd) (S : FnScope N ps (defScope st)) (hmd : md.length = ps.length) (hb : BindsF x st ps)
    (D : ∀ (cdv : Value) (A : Around) (outer : List PySem.Env) (s : Shared) (H : Hp) (E : XK) (H0 : Hp) (pr : List (Nat × Addr)), (∀ i, md.getD i false = false → pfree ⟨⟨K, mg, w⟩, H0, pr, none⟩ i) → Room k (A.deeper (envOfC x (defScope st) s.heap.objs.size fA cdv)) →
      Takes (cxOf (L2.CX P w) P w K mg base N x (defScope st) fA cdv A outer s H E) (fun cls d _ H => E cls d H) → DSs (cxOf (L2.CX P w) P w K mg base N x (defScope st) fA cdv A outer s H E) ⟨⟨K, mg, w⟩, H0, pr, none⟩ (fun cls d _ H => E cls d H) rm (defBody st) bm) :
    DFn P w K mg base x (k + 1) md rm (fnM rm.b N.length bm) := by
  obtain ⟨h1, F⟩ := Dn
  exact ⟨fA, fd, ps, h1, F.kp, F.bindsN hb, fn_ok F S hmd D⟩
section
variable {X : Cx} {G : Gh} {W : WX} {e : Expr} {es : List Expr} {pos p : Pos} {x : Str} {j k : Nat} {md : List Bool} {f : Fn} {fa : M (List Ag)}
theorem de_calls (hex : G.ex = none) (hm0 : G.m = ⟨X.K, X.mg, X.w⟩) (tk : Takes X W) (C : DFn X.prog X.w X.K X.mg X.base x j md .f f) (hr : Room k X.A) (hk : j ≤ k) (hg : Gl X x) (ha : DG X G W (e :: es) fa) (hdb : (x == ("__debug__" : Str)) = false := by decide) (he : starEach (e :: es) X.env = (false, eval e X.env) :: starEach es X.env := by rfl) (hpl : (backTo pos (starEach es X.env)).any (·.1) = false := by rfl) :
    DE X G W (.Call (.Name x p) (e :: es) [] pos) (callM f (mdM md fa)) := by
  obtain ⟨fA, fd, ps, h1, h2, h3, h4⟩ := C.ex
  exact de_call hex hm0 tk h4 (hr.mono hk) hg h1 h2 h3 ha hdb he hpl
/-- an own exception class -/
structure ExcIn (K : PySem.W.Frag) (mg : Str → Option Value) (x : Str) : Prop where
  ex : ∃ C, mg x = some (.ref C) ∧ PySem.W.excIn K C He.veBase "ValueError.__new__" = true ∧ PySem.W.keepIn K (.ref C) = true ∧ PySem.W.subIn K (.ref C) (.type "BaseException") = some true ∧ PySem.W.typeIn K (.ref C) = some (.type "type")
theorem ds_raises {rm : RM} {z : Str} {j : Nat} {p2 pos2 : Pos} (hK : G.m = ⟨X.K, X.mg, X.w⟩) (hc : X.calm = true) (tk : Takes X W) (T : ExcIn X.K X.mg x) (hg : Gl X x) (hdb : (x == ("__debug__" : Str)) = false := by decide) :
    DS X G W rm (.Raise (some (.Call (.Name x p) [.Constant (.str z) j p2] [] pos)) none pos2) (raiseM x) := by
  obtain ⟨C, h1, h2, h3, h4, h5⟩ := T.ex
  exact ds_raise hK hc tk h2 h1 h3 (raises_own h4 h5) hg hdb
/-- -n -/
def negM (f : M D) : M D := bindM f fun d => match d with
  | .int i => pureM (.int (-i))
  | _ => stuckM
end
end DL
end
section
namespace DL
open PySem PySem.Spec L2
open PyProof.Rows hiding St

/-! ### the module's own exception classes: tab tells each one's supers (itself too) -/
abbrev ExTab := List (Str × List Str)
def subT (tab : ExTab) (t c : Str) : Option Bool := (tab.lookup c).map fun sup => sup.contains t
structure Exs (K : PySem.W.Frag) (mg : Str → Option Value) (tab : ExTab) : Prop where
  cls : ∀ c sup, tab.lookup c = some sup → ∃ C, mg c = some (.ref C) ∧ PySem.W.excIn K C He.veBase "ValueError.__new__" = true ∧ PySem.W.keepIn K (.ref C) = true ∧ PySem.W.subIn K (.ref C) (.type "BaseException") = some true ∧ PySem.W.typeIn K (.ref C) = some (.type "type") ∧ ExcC K C ∧
    (∀ t supt, tab.lookup t = some supt → ∃ Ct, mg t = some (.ref Ct) ∧ PySem.W.kitOne K (.ref C) (.ref Ct) = some (sup.contains t) ∧ PySem.W.exmOne K (.ref C) (.ref Ct) = some (sup.contains t)) ∧ PySem.W.kitOne K (.ref C) (.type "ValueError") = some true
/-- the same as a computation -/
def excCB (K : PySem.W.Frag) (D : Addr) : Bool :=
  decide (PySem.W.findIn K (.ref D) "__getattribute__" = some (some (.builtin "BaseException.__getattribute__"))) && (decide (PySem.W.findIn K (.ref D) "__getattr__" = some none) && (PySem.W.hasDictIn K D &&
  (decide (PySem.W.findIn K (.ref D) "__class__" = some (some (.builtin "object.__class__"))) && (decide (PySem.W.specialIn K (.builtin "object.__class__") "__get__" = some (some (.builtin "getset_descriptor.__get__"))) &&
  (decide (PySem.W.takesIn K (.builtin "object.__class__") = some true) && decide (PySem.W.mroIn K D (.type "object") = some true))))))
def exsB (K : PySem.W.Frag) (tab : ExTab) : Bool := tab.all fun p =>
  decide (PySem.W.nsIn K mainGlobals p.1 = some (some (.ref (He.ga K p.1)))) && (PySem.W.excIn K (He.ga K p.1) He.veBase "ValueError.__new__" && (PySem.W.keepIn K (.ref (He.ga K p.1)) && (decide (PySem.W.subIn K (.ref (He.ga K p.1)) (.type "BaseException") = some true) &&
  (decide (PySem.W.typeIn K (.ref (He.ga K p.1)) = some (.type "type")) && (excCB K (He.ga K p.1) && ((tab.all fun q => decide (PySem.W.kitOne K (.ref (He.ga K p.1)) (.ref (He.ga K q.1)) = some (p.2.contains q.1)) && decide (PySem.W.exmOne K (.ref (He.ga K p.1)) (.ref (He.ga K q.1)) = some (p.2.contains q.1))) &&
  decide (PySem.W.kitOne K (.ref (He.ga K p.1)) (.type "ValueError") = some true)))))))
theorem lookup_mem {α β : Type} [BEq α] [LawfulBEq α] {a : α} {b : β} : ∀ {l : List (α × β)}, l.lookup a = some b → (a, b) ∈ l
  | [], h => by simp at h
  | (x, y) :: l, h => by
    rw [List.lookup_cons] at h
    split at h
    · rename_i e
      have := beq_iff_eq.mp e
      cases h; subst this; exact List.mem_cons_self
    · exact List.mem_cons_of_mem _ (lookup_mem h)
theorem exsB_ok {K : PySem.W.Frag} {h : Heap} {mg : Str → Option Value} {tab : ExTab} (X : K.In h) (G : h.Ns mainGlobals mg) (e : exsB K tab = true) : Exs K mg tab := by
  have un := fun (p : Str × List Str) hp => List.all_eq_true.mp e p hp
  refine ⟨fun c sup hc => ?_⟩
  have q := un _ (lookup_mem hc)
  simp only [Bool.and_eq_true, decide_eq_true_eq] at q
  obtain ⟨q1, q2, q3, q4, q5, q6, q7, q8⟩ := q
  unfold excCB at q6
  simp only [Bool.and_eq_true, decide_eq_true_eq] at q6
  obtain ⟨r1, r2, r3, r4, r5, r6, r7⟩ := q6
  refine ⟨_, PySem.W.mg_of X G q1, q2, q3, q4, q5, ⟨r1, r2, q4, r3, r4, r5, r6, r7⟩, fun t supt ht => ?_, q8⟩
  have z := List.all_eq_true.mp q7 _ (lookup_mem ht)
  simp only [Bool.and_eq_true, decide_eq_true_eq] at z
  have zt := un _ (lookup_mem ht)
  simp only [Bool.and_eq_true, decide_eq_true_eq] at zt
  exact ⟨_, PySem.W.mg_of X G zt.1, z.1, z.2⟩
theorem subT_inv {tab : ExTab} {t c : Str} {b : Bool} (h : subT tab t c = some b) : ∃ sup, tab.lookup c = some sup ∧ sup.contains t = b := by
  unfold subT at h
  cases e : tab.lookup c with
  | none => rw [e] at h; cases h
  | some sup => rw [e] at h; cases h; exact ⟨sup, rfl, rfl⟩
theorem Exs.exc {K : PySem.W.Frag} {mg : Str → Option Value} {tab : ExTab} (T : Exs K mg tab) (x : Str) (h : (tab.lookup x).isSome = true) : ExcIn K mg x := by
  obtain ⟨sup, e⟩ := Option.isSome_iff_exists.mp h
  obtain ⟨C, h1, h2, h3, h4, h5, _⟩ := T.cls x sup e
  exact ⟨C, h1, h2, h3, h4, h5⟩
/-- the handled exception, told for a suite -/
structure HotB (X : Cx) (a : Addr) (c : Str) (C : Addr) (oe : Obj) : Prop where
  mg : X.mg c = some (.ref C)
  hx : HotX X a C oe
section
variable {X : Cx} {G : Gh} {W : WX} {rm : RM} {tab : ExTab}
theorem ds_tryT (i : Nat) {x n : Str} {body suite : List Stmt} {b0 : Stmt} {np pos pos' : Pos} {bm : MS} {sm : Str → MS} (hx : G.ex = none) (hGK : G.m = ⟨X.K, X.mg, X.w⟩) (pf : pfree G i) (T : Exs X.K X.mg tab) (hxt : (tab.lookup x).isSome = true) (hg : Gl X x) (hdb : (x == ("__debug__" : Str)) = false)
    (hs : X.stack = X.env :: X.outer) (hf : X.env.frame = some X.env.locals) (hN : X.N.Nodup) (hi : X.N[i]? = some n) (hln : X.env.kindOf n = some .local) (tk : Takes X W)
    (hb : ∀ (W' : WX) (pn : List (Addr × Obj)) (xe : Value → Shared → Prop), Takes (X.tr pn xe) W' → PassesOwn (model X.prog X.w) X.A X.env xe → DSs (X.tr pn xe) G W' rm body bm)
    (hsu : ∀ (a : Addr) (oe : Obj) (C : Addr) (c : Str) (pn : List (Addr × Obj)), HotB (X.suite a ((a, oe) :: pn)) a c C oe → DSs (X.suite a ((a, oe) :: pn)) ⟨G.m, G.H0, G.pr, some (a, c)⟩ W0 rm (b0 :: suite) (sm c)) :
    DS X G W rm (.Try body [.ExceptHandler (some (.Name x np)) (some n) (b0 :: suite) pos'] [] [] pos) (tryM i (subT tab x) bm sm) := by
  obtain ⟨supx, ex⟩ := Option.isSome_iff_exists.mp hxt
  obtain ⟨Cx0, gx, _⟩ := T.cls x supx ex
  exact ds_try (cv := .ref Cx0) i hx hGK pf (fun c C b e1 e2 => by
      obtain ⟨sup, e3, e4⟩ := subT_inv e2
      obtain ⟨C', h1, _, _, _, _, _, h2, _⟩ := T.cls c sup e3
      rw [e1] at h1; cases h1
      obtain ⟨Ct, h3, _, h4⟩ := h2 x supx ex
      rw [gx] at h3; cases h3
      rw [h4, e4]) hs hf hN hi hln ⟨hg, hdb, .inl gx⟩ tk hb
    (fun a oe C c pn e1 _ hz hv => hsu a oe C c pn ⟨e1, ⟨List.mem_cons_self, hz, hv⟩⟩)
theorem de_isEc (i : Nat) {y t : Str} {a C : Addr} {c : Str} {oe : Obj} {p p2 p3 pos : Pos} (hx : HotB X a c C oe) (T : Exs X.K X.mg tab) (ht : (tab.lookup t).isSome = true) (hex : G.ex = some (a, c)) (hgt : Gl X t) (hdt : (t == ("__debug__" : Str)) = false)
    (hg : Gl X "isinstance") (hm : X.mg "isinstance" = none) (hN : X.N[i]? = some y) (hv : Vis X.env.scope y := by first | exact .inl rfl | exact .inr (.inl rfl) | exact .inr (.inr rfl)) (hd : (y == ("__debug__" : Str)) = false := by decide) (hcd : (y == ("__classdict__" : Str)) = false := by decide)
    (hs : starEach [.Name y p2, .Name t p3] X.env = (false, eval (.Name y p2) X.env) :: starEach [.Name t p3] X.env := by rfl) (hs2 : starEach [.Name t p3] X.env = (false, eval (.Name t p3) X.env) :: starEach [] X.env := by rfl) (hpl : (backTo pos (starEach [.Name t p3] X.env)).any (·.1) = false := by rfl) :
    DE X G W (.Call (.Name "isinstance" p) [.Name y p2, .Name t p3] [] pos) (exnM i (fun c => subT tab t c)) := by
  obtain ⟨supt, et⟩ := Option.isSome_iff_exists.mp ht
  obtain ⟨Ct, gt, _⟩ := T.cls t supt et
  by_cases hc : (tab.lookup c).isSome = true
  · obtain ⟨sup, ec⟩ := Option.isSome_iff_exists.mp hc
    obtain ⟨C', h1, _, _, _, _, hE, h2, _⟩ := T.cls c sup ec
    rw [hx.mg] at h1; cases h1
    obtain ⟨Ct', h3, h4, _⟩ := h2 t supt et
    rw [gt] at h3; cases h3
    exact de_isE (cV := .ref Ct) (cv := .ref Ct) i hx.hx hE hex (pe_glob hgt gt rfl hdt) (fun u r => r) (fun b e => by
      unfold subT at e; rw [ec] at e; cases e; exact h4) hg hm hN hv hd hcd hs hs2 hpl
  · refine ⟨fun pins s σ H Q I ⟨ρ, k, q⟩ => ?_⟩
    exfalso
    have e0 : tab.lookup c = none := Option.not_isSome_iff_eq_none.mp hc
    unfold exnM at q
    cases e : ρ[i]? with
    | none => simp only [e] at q; exact q.elim
    | some sl =>
      cases sl with
      | exn c' =>
        simp only [e] at q
        obtain ⟨b, h1, _⟩ := k.exn i c' e
        rw [hex] at h1; cases h1
        simp only [subT, e0, Option.map_none] at q
        exact q.elim
      | no => simp only [e] at q; exact q.elim
      | d x => simp only [e] at q; exact q.elim
      | cell x => simp only [e] at q; exact q.elim
/-- isinstance(e, ValueError) -/
theorem de_isEv (i : Nat) {y : Str} {a C : Addr} {c : Str} {oe : Obj} {p p2 p3 pos : Pos} (hx : HotB X a c C oe) (T : Exs X.K X.mg tab) (hex : G.ex = some (a, c)) (hgt : Gl X "ValueError") (hmt : X.mg "ValueError" = none)
    (hg : Gl X "isinstance") (hm : X.mg "isinstance" = none) (hN : X.N[i]? = some y) (hv : Vis X.env.scope y := by first | exact .inl rfl | exact .inr (.inl rfl) | exact .inr (.inr rfl)) (hd : (y == ("__debug__" : Str)) = false := by decide) (hcd : (y == ("__classdict__" : Str)) = false := by decide)
    (hs : starEach [.Name y p2, .Name "ValueError" p3] X.env = (false, eval (.Name y p2) X.env) :: starEach [.Name "ValueError" p3] X.env := by rfl) (hs2 : starEach [.Name "ValueError" p3] X.env = (false, eval (.Name "ValueError" p3) X.env) :: starEach [] X.env := by rfl) (hpl : (backTo pos (starEach [.Name "ValueError" p3] X.env)).any (·.1) = false := by rfl) :
    DE X G W (.Call (.Name "isinstance" p) [.Name y p2, .Name "ValueError" p3] [] pos) (exnM i (fun c => (tab.lookup c).map fun _ => true)) := by
  by_cases hc : (tab.lookup c).isSome = true
  · obtain ⟨sup, ec⟩ := Option.isSome_iff_exists.mp hc
    obtain ⟨C', h1, _, _, _, _, hE, _, h2⟩ := T.cls c sup ec
    rw [hx.mg] at h1; cases h1
    exact de_isE (cV := .ty "ValueError") (cv := .type "ValueError") i hx.hx hE hex (pe_bltn hgt hmt (by decide +kernel) rfl) (fun u r => r) (fun b e => by
      rw [ec] at e; cases e; exact h2) hg hm hN hv hd hcd hs hs2 hpl
  · refine ⟨fun pins s σ H Q I ⟨ρ, k, q⟩ => ?_⟩
    exfalso
    have e0 : tab.lookup c = none := Option.not_isSome_iff_eq_none.mp hc
    unfold exnM at q
    cases e : ρ[i]? with
    | none => simp only [e] at q; exact q.elim
    | some sl =>
      cases sl with
      | exn c' =>
        simp only [e] at q
        obtain ⟨b, h1, _⟩ := k.exn i c' e
        rw [hex] at h1; cases h1
        simp only [e0, Option.map_none] at q
        exact q.elim
      | no => simp only [e] at q; exact q.elim
      | d x => simp only [e] at q; exact q.elim
      | cell x => simp only [e] at q; exact q.elim
end
/-! ### a def called with the handled exception -/
structure DFnX (P : Program) (w : World) (K : PySem.W.Frag) (mg : Str → Option Value) (base : Heap) (x : Str) (k : Nat) (md : List Bool) (f : Fn) : Prop where
  ex : ∃ fA fd ps, mg x = some (.ref fA) ∧ PySem.W.keepIn K (.ref fA) = true ∧ Binds K fd ps [] ∧ ∀ (p : Addr × Obj) (c : Str) (C : Addr), mg c = some (.ref C) → Zc (.ref C) none p.2 → (∃ vs, p.2.data = .fields vs) → FnX P w K mg base k fA fd ps p (spX ⟨K, mg, w⟩ (some (p.1, c)) md .f f)
section
variable {X : Cx} {G : Gh} {e : Expr} {es : List Expr} {pos p : Pos} {x : Str} {j : Nat} {md : List Bool} {f : Fn} {fa : M (List Ag)}
/-- len of an own list -/
def lenO (i : Nat) : M D := bindM (getO i) fun xs => pureM (.int xs.length)
end
end DL
end
section
namespace DL
open PySem PySem.Spec L2
open PyProof.Rows hiding St

/-! ### the head: the facts of HeadHook2 and one computation more -/
abbrev AlE : Type := He.AlD × Bool
def obsE (n : Nat) (fa : List He.Fa) (fn : List He.DefD) (xt : PySem.W.Frag → Bool) (g : Addr → Option Obj) : AlE := (He.obsDG n fa fn g, xt (He.frG g (He.asD g n)))
/-- the lists of the written part have no slots -/
def slotsB (K : PySem.W.Frag) : Bool := K.all fun p => match p.2.cls with
  | .type c => c != "list" || p.2.slots.isEmpty
  | _ => true
theorem slotsB_ok {K : PySem.W.Frag} (h : slotsB K = true) {a : Addr} {o : Obj} (e : K.lookup a = some o) (c : o.cls = .type "list") : o.slots = #[] := by
  have q := List.all_eq_true.mp h _ (lookup_mem e)
  simp only [c, Bool.or_eq_true] at q
  rcases q with q | q
  · simp at q
  · exact Array.isEmpty_iff.mp q
theorem script_ok {m : Md} {H : Hp} {a : Addr} {ns : List Int} (hs : slotsB m.K = true) (hO : Only H) (h : SqL m.K H a (ns.map V.int)) : Rep m H (.ref a) (.lst (ns.map D.int)) := by
  have r : RepL m H (ns.map V.int) (ns.map D.int) := by
    induction ns with
    | nil => exact .nil
    | cons n ns ih =>
      refine .cons (.int n) ?_
      clear h ih
      induction ns with
      | nil => exact .nil
      | cons n ns ih => exact .cons (.int n) ih
  refine .lst ?_ r
  rcases h with (h | ⟨o, h⟩) | ⟨o, its, n, h1, h2, h3, h4, h5, h6⟩
  · rcases hO a with e | ⟨o, xs, e⟩
    · rw [h] at e; cases e
    · rw [h] at e; cases e
  · exact .inl ⟨o, h⟩
  · have z := slotsB_ok hs h1 h2
    obtain ⟨oc, od, dt, sl⟩ := o
    dsimp only at h2 h3 h4 z
    subst h2; subst h3; subst h4; subst z
    exact .inr ⟨its, n, h1, h5, h6⟩
/-- the law's promise from the mirror's answer -/
theorem law_sp {m : Md} {f : Fn} {H : Hp} {a : Addr} {ns : List Int} (hs : slotsB m.K = true) (hO : Only H) (h : SqL m.K H a (ns.map V.int)) (e : f [.d (.lst (ns.map D.int))] = .ok (.bl true) []) : spD m none [false] .f f [.ref a] H (fun v _ => v = .bl true) fun _ _ _ => False := by
  refine ⟨[.d (.lst (ns.map D.int))], rfl, ⟨rfl, fun i x h => ?_, fun i xs h => ?_, fun i j xs ys b ne h => ?_, fun i c h => ?_⟩, ?_⟩
  · cases i with
    | zero => simp at h; subst h; exact ⟨_, rfl, script_ok hs hO ‹_›⟩
    | succ i => simp at h
  · cases i <;> simp at h
  · cases i <;> simp at h
  · cases i <;> simp at h
  · rw [e]
    intro v H' _ _ _ r
    cases r; rfl
theorem cx_none {P : Program} {w : World} {H : Hp} {s : Shared} {e : Value} {s' : Shared} (h : L2.CX P w [] H s (fun _ _ _ => False) e s') : False := by
  obtain ⟨_, _, _, _, _, _, _, _, _, _, _, _, hE⟩ := h
  exact hE
/-- a def of the text from the head's facts -/
theorem def_in {fa : List He.Fa} {fn : List He.DefD} {K : PySem.W.Frag} {h : Heap} {mg : Str → Option Value} (X : K.In h) (G : h.Ns mainGlobals mg) (c : He.SaysD fa fn K) {x : Str} {st : Stmt} (i j : Nat) (hi : fn[i]? = some ⟨(x, none), x, x, defArgs st, defBody st, defScope st, [], []⟩) (hj : fa[j]? = some (.glo x)) : ∃ fd, DefIn K mg x st (He.ga K x) fd := by
  obtain ⟨fd, F⟩ := c.def_ i hi
  exact ⟨fd, He.glo_ok X G (c.fact j hj), F⟩
end DL
end
section
/-! the law's own frame, whose guards are known (for repr of containers) -/
namespace DL
open PySem PySem.Spec L2
open PyProof.Rows hiding St
/-- a promise kept where the claim calls -/
structure FnG (P : Program) (w : World) (K : PySem.W.Frag) (mg : Str → Option Value) (base : Heap) (f : Addr) (fd : FuncData) (ps : List Str) (sp : Sp) : Prop where
  go : ∀ (s : Shared) (H : Hp) (args : Args) (us : List Value) (vs : List V) (Q : VK) (E : XK), Env0 P w K mg base callerA [] s H → BindsTo s fd args (ps.zip us) → Vals vs us → sp vs H Q E →
    codeAny (model P w) callerA (.call (.ref f) args) (CR (L2.CX P w) [] P w H s Q E) s
section
variable {P : Program} {w : World} {K : PySem.W.Frag} {mg : Str → Option Value} {base : Heap} {k : Nat} {f : Addr} {fd : FuncData} {N ps : List Str} {x qual : Str} {params : Arguments} {body : List Stmt} {scope : Scope}
theorem fnG_of {sp : Sp} (F : FunD K x qual params body scope [] [] f fd) (S : FnScope N ps scope) (room : Room (k + 1) callerA) (len : ∀ vs H Q E, sp vs H Q E → vs.length = ps.length)
    (hb : ∀ (cdv : Value) (s : Shared) (H : Hp) (vs : List V) (Q : VK) (E : XK), sp vs H Q E →
      ∃ t, PSs (cxOf (L2.CX P w) P w K mg base N qual scope f cdv callerA [] s H E) body t ∧ t { nx := fun _ H' => Q .non H', rt := Q } (L2.start N vs) H) : FnG P w K mg base f fd ps sp := by
  obtain ⟨oc, od, dV, kV, doc, pm, an, cdv, ct, osl, rfl, lk, hcd, _, _⟩ := F.ex
  refine ⟨fun s H args us vs Q E e bd rv hq => ?_⟩
  have old : ∀ b o, base.get? b = some o → s.heap.get? b = some o := fun b o z => (e.bs b o z).1
  have inK := e.mod.kin.keeps old
  have nol := e.mod.nolimit.keeps old
  have kinds : ∀ y ∈ ps.zip us, scope.names.lookup y.1 = some .local ∨ (scope.names.lookup y.1 = some .cell ∧ ((cellsFrom (s.heap.objs.size + 1) scope.names []).lookup y.1).isSome = true) := by
    rintro ⟨nm, u⟩ hy
    rcases S.par nm (List.of_mem_zip hy).1 with z | z
    · exact .inl z
    · exact .inr ⟨z, PySem.W.cellsFrom_some _ _ _ (.inl z)⟩
  refine codeAny_call_function room.depth (inK _ _ lk) rfl S.co S.gen rfl (PySem.W.codeRec_of inK hcd) (bd _ _ _ _ ?_)
  refine wpAny_newFunctionEnv_cells S.kind kinds fun env he s1 inC => ?_
  subst he
  refine ⟨nol.keeps inC.toInCall.keep, codeAny_func ?_⟩
  obtain ⟨t, T, q⟩ := hb cdv s H vs Q E hq
  have I := inv_start (CX := L2.CX P w) (E := E) S room.hd e (len _ _ _ _ hq) rv inC
  refine wpAny_mono (T.run [] s1 (L2.start N vs) H _ I q) (fun fl s' z => ?_) fun ex s' z => z
  cases fl with
  | ret u => obtain ⟨v, σ', H', J, r, q'⟩ := z; exact ⟨v, H', J.os, J.bare, J.base, J.hok, r, q'⟩
  | next => obtain ⟨σ', H', J, q'⟩ := z; exact ⟨.non, H', J.os, J.bare, J.base, J.hok, rfl, q'⟩
  | brk => obtain ⟨_, _, _, q'⟩ := z; exact q'.elim
  | cont => obtain ⟨_, _, _, q'⟩ := z; exact q'.elim
theorem fn_okG {md : List Bool} {rm : RM} {bm : MS} (F : FunD K x qual params body scope [] [] f fd) (S : FnScope N ps scope) (hmd : md.length = ps.length) (room : Room (k + 1) callerA)
    (D : ∀ (cdv : Value) (s : Shared) (H : Hp) (E : XK) (H0 : Hp) (pr : List (Nat × Addr)), (∀ i, md.getD i false = false → pfree ⟨⟨K, mg, w⟩, H0, pr, none⟩ i) → Room k (cxOf (L2.CX P w) P w K mg base N qual scope f cdv callerA [] s H E).A →
      Takes (cxOf (L2.CX P w) P w K mg base N qual scope f cdv callerA [] s H E) (fun cls d _ H => E cls d H) → DSs (cxOf (L2.CX P w) P w K mg base N qual scope f cdv callerA [] s H E) ⟨⟨K, mg, w⟩, H0, pr, none⟩ (fun cls d _ H => E cls d H) rm body bm) :
    FnG P w K mg base f fd ps (spD ⟨K, mg, w⟩ none md rm (fnM rm.b N.length bm)) := by
  refine fnG_of F S room (fun vs H Q E h => ?_) (fun cdv s H vs Q E h => ?_)
  · obtain ⟨ρ, h1, h2, _⟩ := h
    rw [h2.len, ← hmd, ← h1, List.length_map]
  · obtain ⟨ρ, h1, h2, h3⟩ := h
    exact ⟨_, D cdv s H E H (prOf vs ρ 0) (fun i hi => pfree_of (m := ⟨K, mg, w⟩) (ex := none) (H := H) h1 i hi) (room.deeper _) (takes_of rfl rfl rfl rfl), body_ok (fun _ _ _ _ z => z) h2 h3⟩
end
/-! ### the hook: sys.modules is there -/
def sysB (K : PySem.W.Frag) : Bool := (K.lookup sysModules).isNone
def dicD : Data → Bool
  | .dict _ _ => true
  | _ => false
def dicO : Option Obj → Bool
  | some o => dicD o.data
  | none => false
def obsS (n : Nat) (fa : List He.Fa) (fn : List He.DefD) (xt : PySem.W.Frag → Bool) (g : Addr → Option Obj) : AlE × Bool := (obsE n fa fn xt g, dicO (g sysModules))
def HasSys (h : Heap) : Prop := ∃ o, PySem.W.Frag.In [(sysModules, o)] h ∧ dicO (some o) = true
def hookS (n : Nat) (fa : List He.Fa) (fn : List He.DefD) (xt : PySem.W.Frag → Bool) : PySem.W.Hook where
  α := AlE × Bool
  obs := fun s => obsS n fa fn xt s.heap.get?
  val := fun _ => ((He.valD fn, true), true)
  says := fun _ h => (∃ K : PySem.W.Frag, K.In h ∧ He.SaysD fa fn K ∧ xt K = true) ∧ HasSys h
  of := fun _ s e => ⟨⟨He.frG s.heap.get? (He.asD s.heap.get? n), He.frG_in, congrArg (fun z : AlE × Bool => z.1.1) e, congrArg (fun z : AlE × Bool => z.1.2) e⟩, by
    have z : dicO (s.heap.get? sysModules) = true := congrArg (fun z : AlE × Bool => z.2) e
    cases g : s.heap.get? sysModules with
    | none => rw [g] at z; cases z
    | some o =>
      rw [g] at z
      refine ⟨o, fun b o' h => ?_, z⟩
      by_cases c : b = sysModules
      · subst c
        have : some o = some o' := by rw [← h]; simp [List.lookup]
        rw [g, this]
      · exfalso
        have : (List.lookup b [(sysModules, o)]) = some o' := h
        simp only [List.lookup] at this
        rw [show (b == sysModules) = false from beq_eq_false_iff_ne.mpr c] at this
        cases this⟩
  keeps := fun _ _ _ ⟨⟨K, h1, h2, h3⟩, o, h4, h5⟩ k => ⟨⟨K, PySem.W.Frag.In.keeps h1 k, h2, h3⟩, o, PySem.W.Frag.In.keeps h4 k, h5⟩
theorem obsS_eq {n : Nat} {fa : List He.Fa} {fn : List He.DefD} {xt : PySem.W.Frag → Bool} {g : Addr → Option Obj} {s : Shared} (h : ∀ a, g a = s.heap.get? a) : obsS n fa fn xt g = (hookS n fa fn xt).obs s := by
  rw [show g = s.heap.get? from funext h]; rfl
theorem HasSys.at_ {h : Heap} (x : HasSys h) : ∃ o es ep, h.get? sysModules = some o ∧ o.data = .dict es ep := by
  obtain ⟨o, i, d⟩ := x
  refine ⟨o, ?_⟩
  have g := i sysModules o (by simp [List.lookup])
  have d : dicD o.data = true := d
  cases e : o.data with
  | dict es ep => exact ⟨es, ep, g, rfl⟩
  | _ => rw [e] at d; cases d
/-! ### the end -/
/-- the law is called -/
theorem call_G {P : Program} {w : World} {K : PySem.W.Frag} {mg mb : Str → Option Value} {fa a : Addr} {fd : FuncData} {x : Str} {sp : Sp} {s₁ : Shared} {us : List Value} {ns : List Int}
    (inK : K.In s₁.heap) (nM : s₁.heap.Ns mainGlobals mg) (nB : s₁.heap.Ns builtinsNs mb) (eB : ∀ z : Str, z ≠ "__name__" → mb z = bootBuiltins z) (nl : s₁.heap.NoLimit) (g0 : s₁.gens = #[]) (sy : HasSys s₁.heap)
    (oa : s₁.heap.get? a = some { cls := .type "list", data := .seq us.toArray }) (ia : IntsAre us ns) (la : ns.length ≤ sizeLine)
    (F : ∀ base : Heap, K.In base → base.Ns mainGlobals mg → (∃ o, base.get? sysModules = some o) → FnG P w K mg base fa fd [x] sp) (bd : ∀ (s : Shared) (u : Value), BindsTo s fd ⟨[u], []⟩ [(x, u)])
    (hsp : ∀ H : Hp, Only H → SqL K H a (ns.map V.int) → sp [.ref a] H (fun v _ => v = .bl true) fun _ _ _ => False) :
    codeAny (model P w) callerA (.call (.ref fa) ⟨[.ref a], []⟩) (fun r s' => r = .ok (.ret (.bool true)) ∧ OldK s₁.heap s'.heap ∧ s'.os = s₁.os ∧ AllBare s'.gens) s₁ := by
  have rv := vals_ints ia
  have nus := ia.length
  have main : ∀ H : Hp, (∀ b o, H b = some o → b = a ∧ o = .frz { cls := .type "list", data := .seq us.toArray } (.lst (ns.map V.int)) ∧ K.lookup a = none) → SqL K H a (ns.map V.int) → HOk P w H s₁.heap →
      codeAny (model P w) callerA (.call (.ref fa) ⟨[.ref a], []⟩) (fun r s' => r = .ok (.ret (.bool true)) ∧ OldK s₁.heap s'.heap ∧ s'.os = s₁.os ∧ AllBare s'.gens) s₁ := by
    intro H only sq ok
    have free : ∀ b, (b = a → False) → H b = none := fun b hb => by
      cases z : H b with
      | none => rfl
      | some o => exact (hb (only b o z).1).elim
    have back : ∀ {b : Addr} {o : Obj}, s₁.heap.get? b = some o → H b = none → (hidT s₁.heap H).get? b = some o := fun z1 z2 => hidT_get z1 z2
    have dicF : ∀ {b : Addr} {o : Obj} {es : Array DictEntry} {ep : Nat}, s₁.heap.get? b = some o → o.data = .dict es ep → H b = none := fun {b o es ep} z1 z2 => free b fun e => by
      subst e
      rw [oa] at z1; cases z1
      have z2 : Data.seq us.toArray _ = Data.dict es ep := z2
      cases z2
    have nsF : ∀ {b : Addr} {m : Str → Option Value}, s₁.heap.Ns b m → (hidT s₁.heap H).Ns b m := fun {b m} ⟨o, es, ep, z1, z2, z3⟩ => ⟨o, es, ep, back z1 (dicF z1 z2), z2, z3⟩
    have inB : K.In (hidT s₁.heap H) := fun b o z => back (inK b o z) (by
      cases q : H b with
      | none => rfl
      | some u =>
        obtain ⟨e, _, n⟩ := only b u q
        rw [e, n] at z; cases z)
    have syB : ∃ o, (hidT s₁.heap H).get? sysModules = some o := by
      obtain ⟨o, es, ep, z1, z2⟩ := sy.at_
      exact ⟨o, back z1 (dicF z1 z2)⟩
    have env : Env0 P w K mg (hidT s₁.heap H) callerA [] s₁ H :=
      ⟨rfl, ⟨inB, nsF nM, ⟨mb, nsF nB, eB⟩, let ⟨mc, z1, z2⟩ := nl; ⟨mc, nsF z1, z2⟩⟩, fun b o z => of_hidT z, Nat.le_of_eq (hidT_size _ _), trivial, fun b z => absurd (show b ∈ ([] : List Addr) from z) List.not_mem_nil, ok, .of_eq g0⟩
    have onlyH : Only H := fun b => by
      cases z : H b with
      | none => exact .inl rfl
      | some o => exact .inr ⟨_, _, by rw [(only b o z).2.1]⟩
    refine codeAny_mono ((F _ inB (nsF nM) syB).go s₁ H ⟨[.ref a], []⟩ [.ref a] [.ref a] _ _ env (bd s₁ (.ref a)) (.cons rfl .nil) (hsp H onlyH sq)) fun r s' z => ?_
    cases r with
    | error e => exact (cx_none z).elim
    | ok fl =>
      cases fl with
      | next => exact z.elim
      | brk => exact z.elim
      | cont => exact z.elim
      | ret u =>
        obtain ⟨v, H', zo, zb, un, ok', ru, rfl⟩ := z
        obtain rfl : u = Value.bool true := ru
        refine ⟨rfl, OldK.of_keep fun b o zg => ?_, zo, zb⟩
        cases q : H b with
        | none => exact un.keep b o zg q (by intro n; exact absurd (show b ∈ ([] : List Addr) from n) List.not_mem_nil) (by simp)
        | some t =>
          obtain ⟨_, rfl, _⟩ := only b t q
          have q' := un.frzs b _ _ q
          have e1 := (ok b _ q).1
          rw [zg] at e1; cases e1
          exact (ok' b _ q').1
  cases lkA : K.lookup a with
  | some o =>
    have z := inK a o lkA
    rw [oa] at z; cases z
    exact main (fun _ => none) (fun b o z => by cases z) (.inr ⟨_, us.toArray, _, lkA, rfl, rfl, rfl, by rw [List.size_toArray, nus]; exact la, by simpa using rv⟩) (fun b o z => by cases (show (none : Option HO) = some o from z))
  | none =>
    refine main (fun b => if b = a then some (.frz { cls := .type "list", data := .seq us.toArray } (.lst (ns.map V.int))) else none) (fun b o z => ?_) (.inl (.inr ⟨_, if_pos rfl⟩)) (fun b o z => ?_)
    · by_cases c : b = a
      · have z := (if_pos c).symm.trans z
        exact ⟨c, (Option.some.inj z).symm, lkA⟩
      · have z := (if_neg c).symm.trans z
        cases z
    · by_cases c : b = a
      · have z := (if_pos c).symm.trans z
        cases z
        subst c
        exact ⟨oa, by rw [List.length_map]; exact la, us, _, rv, oa⟩
      · have z := (if_neg c).symm.trans z
        cases z
theorem walk_G {l : PySem.W.OpenLaw} {n : Nat} {q : Program} {loose : List Str} {XP : (Str → Option Value) → Heap → Prop} {YP : World → Heap → Prop} {d : DefRec} {x : Str} (hn : l.most = some n) (hn2 : n ≤ sizeLine) (hdf : d.params.defaults = [])
    (F : ∀ (w : World) (mg : Str → Option Value) (fa : Addr) (h : Heap), YP w h → h.Ns mainGlobals mg → mg d.name = some (.ref fa) → HasSys h ∧ ∃ (K : PySem.W.Frag) (fd : FuncData) (sp : Sp), K.In h ∧ (∀ (s : Shared) (u : Value), BindsTo s fd ⟨[u], []⟩ [(x, u)]) ∧
      (∀ (H : Hp) (a : Addr) (ns : List Int), ns.length ≤ n → Only H → SqL K H a (ns.map V.int) → sp [.ref a] H (fun v _ => v = .bl true) fun _ _ _ => False) ∧ ∀ base : Heap, K.In base → base.Ns mainGlobals mg → (∃ o, base.get? sysModules = some o) → FnG l.prog w K mg base fa fd [x] sp) :
    PySem.W.WalkO q loose XP YP l.row.toRowW d [] (fun f vs => PySem.call f vs) := by
  refine Att.attach_call hn hdf fun w t0 t1 mg mb fa o pm cd doc a vs ns Gr Y e1 e2 e3 hmg e4 e5 hlen e6 => ?_
  obtain ⟨sy, K, fd, sp, hK, hb, hsp, hF⟩ := F w mg fa _ Y Gr.T.g hmg
  exact call_G hK Gr.T.g Gr.T.b Gr.T.builtins Gr.T.nolimit e6 sy e4 e5 (Nat.le_trans hlen hn2) hF hb fun H h1 h2 => hsp H a ns hlen h1 h2
end DL
end
namespace DL
open PySem PySem.Spec L2
open PyProof.Rows hiding St
def tab : ExTab := [("YardError", ["YardError", "ValueError"]), ("BadPaper", ["BadPaper", "YardError", "ValueError"]), ("BadText", ["BadText", "YardError", "ValueError"])]
def top (i : Nat) : Stmt := PySem.Challenge.pw_pieceyard_k71_trees_written.main.body.getD i (.Pass ⟨0, 0, 0, 0⟩)
abbrev s_cell_text : Stmt := top 6
abbrev N_cell_text : List Str := ["cell"]
abbrev P_cell_text : List Str := ["cell"]
abbrev s_move_text : Stmt := top 7
abbrev N_move_text : List Str := ["move"]
abbrev P_move_text : List Str := ["move"]
abbrev s_number_in : Stmt := top 8
abbrev N_number_in : List Str := ["word", "figures", "number", "sign"]
abbrev P_number_in : List Str := ["word"]
abbrev s_cell_in : Stmt := top 9
abbrev N_cell_in : List Str := ["word", "parts"]
abbrev P_cell_in : List Str := ["word"]
abbrev s_move_in : Stmt := top 10
abbrev N_move_in : List Str := ["word", "parts", "move"]
abbrev P_move_in : List Str := ["word"]
abbrev s_is_tree : Stmt := top 14
abbrev N_is_tree : List Str := ["tree", "leaf", "row"]
abbrev P_is_tree : List Str := ["tree", "leaf"]
abbrev s_depth_of : Stmt := top 15
abbrev N_depth_of : List Str := ["tree", "row"]
abbrev P_depth_of : List Str := ["tree"]
abbrev s_check_either : Stmt := top 16
abbrev N_check_either : List Str := ["tree"]
abbrev P_check_either : List Str := ["tree"]
abbrev s_depth : Stmt := top 17
abbrev N_depth : List Str := ["tree"]
abbrev P_depth : List Str := ["tree"]
abbrev s_text_of : Stmt := top 20
abbrev N_text_of : List Str := ["tree", "move", "behind"]
abbrev P_text_of : List Str := ["tree"]
abbrev s_tree_text : Stmt := top 21
abbrev N_tree_text : List Str := ["tree"]
abbrev P_tree_text : List Str := ["tree"]
abbrev s_row_from : Stmt := top 22
abbrev N_row_from : List Str := ["text", "at", "blank", "tree", "behind"]
abbrev P_row_from : List Str := ["text", "at"]
abbrev s_rows_from : Stmt := top 23
abbrev N_rows_from : List Str := ["text", "at", "move", "tree", "rows"]
abbrev P_rows_from : List Str := ["text", "at"]
abbrev s_tree_from : Stmt := top 24
abbrev N_tree_from : List Str := ["text", "at", "sign", "move", "tree", "behind"]
abbrev P_tree_from : List Str := ["text", "at"]
abbrev s_read_tree : Stmt := top 25
abbrev N_read_tree : List Str := ["text", "tree", "behind", "deep"]
abbrev P_read_tree : List Str := ["text"]
abbrev s_law_cell_at : Stmt := top 27
abbrev N_law_cell_at : List Str := ["script", "k"]
abbrev P_law_cell_at : List Str := ["script", "k"]
abbrev s_law_mix : Stmt := top 28
abbrev N_law_mix : List Str := ["cell", "k", "many", "some", "stir"]
abbrev P_law_mix : List Str := ["cell", "k", "many"]
abbrev s_law_whole : Stmt := top 29
abbrev s_law_list : Stmt := top 30
abbrev N_law_list : List Str := ["cell", "long", "many", "left", "found", "k"]
abbrev P_law_list : List Str := ["cell", "long", "many"]
abbrev s_law_cell_text : Stmt := top 31
abbrev N_law_cell_text : List Str := ["cell"]
abbrev P_law_cell_text : List Str := ["cell"]
abbrev s_law_line_text : Stmt := top 32
abbrev N_law_line_text : List Str := ["line", "text", "move", "ahead"]
abbrev P_law_line_text : List Str := ["line"]
abbrev s_law_tree_by : Stmt := top 33
abbrev N_law_tree_by : List Str := ["cell", "leaf", "deep", "row", "move", "rows", "k", "other"]
abbrev P_law_tree_by : List Str := ["cell", "leaf", "deep"]
abbrev s_law_tree_text : Stmt := top 34
abbrev N_law_tree_text : List Str := ["tree", "move", "other"]
abbrev P_law_tree_text : List Str := ["tree"]
abbrev s_law_spoilt : Stmt := top 35
abbrev N_law_spoilt : List Str := ["text", "cell", "way", "at"]
abbrev P_law_spoilt : List Str := ["text", "cell"]
abbrev s_law_refused : Stmt := top 36
abbrev N_law_refused : List Str := ["text", "e"]
abbrev P_law_refused : List Str := ["text"]
abbrev s_law_none : Stmt := top 37
abbrev N_law_none : List Str := ["tree", "e"]
abbrev P_law_none : List Str := ["tree"]
abbrev s_law : Stmt := top 38
abbrev N_law : List Str := ["script", "cell", "tree", "due", "before", "found", "move", "both", "bad", "told"]
abbrev P_law : List Str := ["script"]
def d_cell_text : He.DefD := ⟨("cell_text", none), "cell_text", "cell_text", defArgs s_cell_text, defBody s_cell_text, defScope s_cell_text, [], []⟩
def d_move_text : He.DefD := ⟨("move_text", none), "move_text", "move_text", defArgs s_move_text, defBody s_move_text, defScope s_move_text, [], []⟩
def d_number_in : He.DefD := ⟨("number_in", none), "number_in", "number_in", defArgs s_number_in, defBody s_number_in, defScope s_number_in, [], []⟩
def d_cell_in : He.DefD := ⟨("cell_in", none), "cell_in", "cell_in", defArgs s_cell_in, defBody s_cell_in, defScope s_cell_in, [], []⟩
def d_move_in : He.DefD := ⟨("move_in", none), "move_in", "move_in", defArgs s_move_in, defBody s_move_in, defScope s_move_in, [], []⟩
def d_is_tree : He.DefD := ⟨("is_tree", none), "is_tree", "is_tree", defArgs s_is_tree, defBody s_is_tree, defScope s_is_tree, [], []⟩
def d_depth_of : He.DefD := ⟨("depth_of", none), "depth_of", "depth_of", defArgs s_depth_of, defBody s_depth_of, defScope s_depth_of, [], []⟩
def d_check_either : He.DefD := ⟨("check_either", none), "check_either", "check_either", defArgs s_check_either, defBody s_check_either, defScope s_check_either, [], []⟩
def d_depth : He.DefD := ⟨("depth", none), "depth", "depth", defArgs s_depth, defBody s_depth, defScope s_depth, [], []⟩
def d_text_of : He.DefD := ⟨("text_of", none), "text_of", "text_of", defArgs s_text_of, defBody s_text_of, defScope s_text_of, [], []⟩
def d_tree_text : He.DefD := ⟨("tree_text", none), "tree_text", "tree_text", defArgs s_tree_text, defBody s_tree_text, defScope s_tree_text, [], []⟩
def d_row_from : He.DefD := ⟨("row_from", none), "row_from", "row_from", defArgs s_row_from, defBody s_row_from, defScope s_row_from, [], []⟩
def d_rows_from : He.DefD := ⟨("rows_from", none), "rows_from", "rows_from", defArgs s_rows_from, defBody s_rows_from, defScope s_rows_from, [], []⟩
def d_tree_from : He.DefD := ⟨("tree_from", none), "tree_from", "tree_from", defArgs s_tree_from, defBody s_tree_from, defScope s_tree_from, [], []⟩
def d_read_tree : He.DefD := ⟨("read_tree", none), "read_tree", "read_tree", defArgs s_read_tree, defBody s_read_tree, defScope s_read_tree, [], []⟩
def d_law_cell_at : He.DefD := ⟨("_law_cell_at", none), "_law_cell_at", "_law_cell_at", defArgs s_law_cell_at, defBody s_law_cell_at, defScope s_law_cell_at, [], []⟩
def d_law_mix : He.DefD := ⟨("_law_mix", none), "_law_mix", "_law_mix", defArgs s_law_mix, defBody s_law_mix, defScope s_law_mix, [], []⟩
def d_law_whole : He.DefD := ⟨("_law_whole", none), "_law_whole", "_law_whole", defArgs s_law_whole, defBody s_law_whole, defScope s_law_whole, [], []⟩
def d_law_list : He.DefD := ⟨("_law_list", none), "_law_list", "_law_list", defArgs s_law_list, defBody s_law_list, defScope s_law_list, [], []⟩
def d_law_cell_text : He.DefD := ⟨("_law_cell_text", none), "_law_cell_text", "_law_cell_text", defArgs s_law_cell_text, defBody s_law_cell_text, defScope s_law_cell_text, [], []⟩
def d_law_line_text : He.DefD := ⟨("_law_line_text", none), "_law_line_text", "_law_line_text", defArgs s_law_line_text, defBody s_law_line_text, defScope s_law_line_text, [], []⟩
def d_law_tree_by : He.DefD := ⟨("_law_tree_by", none), "_law_tree_by", "_law_tree_by", defArgs s_law_tree_by, defBody s_law_tree_by, defScope s_law_tree_by, [], []⟩
def d_law_tree_text : He.DefD := ⟨("_law_tree_text", none), "_law_tree_text", "_law_tree_text", defArgs s_law_tree_text, defBody s_law_tree_text, defScope s_law_tree_text, [], []⟩
def d_law_spoilt : He.DefD := ⟨("_law_spoilt", none), "_law_spoilt", "_law_spoilt", defArgs s_law_spoilt, defBody s_law_spoilt, defScope s_law_spoilt, [], []⟩
def d_law_refused : He.DefD := ⟨("_law_refused", none), "_law_refused", "_law_refused", defArgs s_law_refused, defBody s_law_refused, defScope s_law_refused, [], []⟩
def d_law_none : He.DefD := ⟨("_law_none", none), "_law_none", "_law_none", defArgs s_law_none, defBody s_law_none, defScope s_law_none, [], []⟩
def d_law : He.DefD := ⟨("law", none), "law", "law", defArgs s_law, defBody s_law, defScope s_law, [], []⟩
def fn : List He.DefD := [d_cell_text, d_move_text, d_number_in, d_cell_in, d_move_in, d_is_tree, d_depth_of, d_check_either, d_depth, d_text_of, d_tree_text, d_row_from, d_rows_from, d_tree_from, d_read_tree, d_law_cell_at, d_law_mix, d_law_whole, d_law_list, d_law_cell_text, d_law_line_text, d_law_tree_by, d_law_tree_text, d_law_spoilt, d_law_refused, d_law_none, d_law]
def fa : List He.Fa := [.glo "cell_text", .glo "move_text", .glo "number_in", .glo "cell_in", .glo "move_in", .glo "is_tree", .glo "depth_of", .glo "check_either", .glo "depth", .glo "text_of", .glo "tree_text", .glo "row_from", .glo "rows_from", .glo "tree_from", .glo "read_tree", .glo "_law_cell_at", .glo "_law_mix", .glo "_law_whole", .glo "_law_list", .glo "_law_cell_text", .glo "_law_line_text", .glo "_law_tree_by", .glo "_law_tree_text", .glo "_law_spoilt", .glo "_law_refused", .glo "_law_none", .glo "law", .free "ValueError", .free "all", .free "bool", .free "int", .free "isinstance", .free "len", .free "max", .free "range", .free "repr", .free "str", .free "tuple", .str "FIGURES" "0123456789", .int "MOST_DEPTH" 12, .str "NOT" "not", .str "WON" "won"]
abbrev Rr : PySem.W.OpenRow := PySem.W.OpenLaw.row PySem.Challenge.rw_pieceyard_k71_trees_written
abbrev hkk : PySem.W.Hook := hookS 4 fa fn fun K => exsB K tab && (slotsB K && sysB K)
def obb (s : PySem.W.SharedT) : AlE × Bool := obsS 4 fa fn (fun K => exsB K tab && (slotsB K && sysB K)) (HandSHeadRun.getT s)
theorem obb_eq (s : PySem.W.SharedT) : obb s = hkk.obs s.abs := obsS_eq (HandSHeadRun.getT_eq s)
def loose : List Str := ([("__name__" : Str), ("YardError" : Str), ("BadPaper" : Str), ("BadText" : Str), ("FIGURES" : Str), ("cell_text" : Str), ("move_text" : Str), ("number_in" : Str), ("cell_in" : Str), ("move_in" : Str), ("WON" : Str), ("NOT" : Str), ("is_tree" : Str), ("depth_of" : Str), ("check_either" : Str), ("depth" : Str), ("MOST_DEPTH" : Str), ("text_of" : Str), ("tree_text" : Str), ("row_from" : Str), ("rows_from" : Str), ("tree_from" : Str), ("read_tree" : Str), ("_law_cell_at" : Str), ("_law_mix" : Str), ("_law_whole" : Str), ("_law_list" : Str), ("_law_cell_text" : Str), ("_law_line_text" : Str), ("_law_tree_by" : Str), ("_law_tree_text" : Str), ("_law_spoilt" : Str), ("_law_refused" : Str), ("_law_none" : Str)] : List Str)
theorem run (w : World) : HandSHeadRun.RunEq Rr (PySem.W.view Rr.prog [38]) hkk obb 8000 loose w := by
  intro os
  kernel_rfl
end DL
section
/-! sets of nested tuples of whole numbers -/
namespace DLS
open PySem PySem.Spec PyProof.Rows L2
mutual
def intK : NestedKey → Bool
  | .num _ => true
  | .tup ks => intKs ks
  | .none => false
  | .text _ => true
def intKs : List NestedKey → Bool
  | [] => true
  | k :: ks => intK k && intKs ks
end
section
variable {P : Program} {w : World}
/-- the question f of v is answered b, nothing changes -/
def Says (P : Program) (w : World) (s : Shared) (f : Sem Bool) (b : Bool) : Prop := ∀ (A : Around) (E : Value → Shared → Prop) (Q : Bool → Shared → Prop), Q b s → wpAny (model P w) A f Q E s
theorem says_pure {s : Shared} {b : Bool} : Says P w s (pure b) b := fun _ _ _ q => wpAny_pure q
/-- a loop whose every turn goes on -/
theorem loop_on {s : Shared} {A : Around} {E : Value → Shared → Prop} {α S : Type} {st : S} {body : α → S → Sem (ForInStep S)} {T : α → Prop} {Q : S → Shared → Prop}
    (turn : ∀ x, T x → ∀ (R : ForInStep S → Shared → Prop), R (.yield st) s → wpAny (model P w) A (body x st) R E s) :
    ∀ xs : List α, (∀ x ∈ xs, T x) → Q st s → wpAny (model P w) A (forIn xs st body) Q E s
  | [], _, q => by rw [List.forIn_nil]; exact wpAny_pure q
  | x :: xs, h, q => by
    rw [List.forIn_cons]
    refine wpAny_bind (turn x (h x List.mem_cons_self) _ ?_)
    exact loop_on turn xs (fun y hy => h y (List.mem_cons_of_mem _ hy)) q
theorem class_tup {s : Shared} {a : Addr} {o : Obj} {vs : Array Value} {m n : Nat} (ho : s.heap.get? a = some o) (hc : o.cls = .type "tuple") (hd : o.data = .seq vs m) (hq : ∀ v ∈ vs.toList, Says P w s (ofAClassStatement n v) false) : Says P w s (ofAClassStatement (n + 1) (.ref a)) false := fun A E Q q => by
  unfold ofAClassStatement
  refine wpAny_bind (wpAny_typeOf (T := "tuple") ⟨o, ho, hc⟩ ?_)
  dsimp only
  simp only [show (("tuple" : String) == "tuple") = true by decide, if_true, Bool.not_true, Bool.false_eq_true, if_false]
  try refine wpAny_bind (wpAny_pure ?_)
  try simp only [Bool.not_true, Bool.false_eq_true, if_false]
  show wpAny (model P w) A (seqItems? (.ref a) >>= _) Q E s
  refine wpAny_bind (wpAny_seqItems ho hd (wpAny_bind ?_))
  show wpAny (model P w) A (forIn vs _ _) _ E s
  rw [← Array.forIn_toList]
  refine loop_on (T := fun v => Says P w s (ofAClassStatement n v) false) ?_ vs.toList hq ?_
  · intro v hv R r
    refine wpAny_bind (hv _ _ _ ?_)
    simp only [Bool.false_eq_true, if_false]
    exact wpAny_pure r
  · exact wpAny_pure q
mutual
theorem class_key : ∀ (k : NestedKey) (v : Value) (n : Nat) (s : Shared), NestedIs s.heap k v → k.depth ≤ n → Says P w s (ofAClassStatement n v) false
  | .none, _, n, s, x, _ => by cases x; cases n <;> exact says_pure
  | .num i, _, n, s, x, _ => by cases x <;> (cases n <;> exact says_pure)
  | .text y, _, n, s, x, _ => by cases x; cases n <;> exact says_pure
  | .tup ks, _, 0, s, x, hn => by simp [NestedKey.depth] at hn
  | .tup ks, _, n + 1, s, x, hn => by
    cases x with
    | tup ho hc hd hk => exact class_tup ho hc hd (class_keys ks _ n s hk (by simp only [NestedKey.depth] at hn; omega))
theorem class_keys : ∀ (ks : List NestedKey) (vs : List Value) (n : Nat) (s : Shared), NestedAll s.heap ks vs → NestedKey.depthAll ks ≤ n → ∀ v ∈ vs, Says P w s (ofAClassStatement n v) false
  | [], _, n, s, x, _, v, hv => by cases x; cases hv
  | k :: ks, _, n, s, x, hn, v, hv => by
    cases x with
    | cons x1 x2 =>
      simp only [NestedKey.depthAll] at hn
      rcases List.mem_cons.mp hv with rfl | hv
      · exact class_key k _ n s x1 (by omega)
      · exact class_keys ks _ n s x2 (by omega) v hv
end
/-- the tuple at a is the key k -/
structure El (h : Heap) (k : NestedKey) (a : Addr) : Prop where
  is : NestedIs h k (.ref a)
  dp : k.depth ≤ 8
  pu : intK k = true
theorem El.keep {h h' : Heap} {k : NestedKey} {a : Addr} (e : El h k a) (kp : ∀ b o vs n, h.get? b = some o → o.data = .seq vs n → h'.get? b = some o) : El h' k a := ⟨e.is.at kp, e.dp, e.pu⟩
theorem El.all {h h' : Heap} {k : NestedKey} {a : Addr} (e : El h k a) (kp : ∀ b o, h.get? b = some o → h'.get? b = some o) : El h' k a := e.keep fun b o _ _ q _ => kp b o q
theorem El.cls {s : Shared} {k : NestedKey} {a : Addr} (e : El s.heap k a) : Says P w s (ofAClassStatement 8 (.ref a)) false := class_key k _ 8 s e.is e.dp
theorem El.qui {s : Shared} {k : NestedKey} {a : Addr} (e : El s.heap k a) : Says P w s (eqIsQuiet 8 (.ref a)) true := fun A E Q q => quiet_key k _ 8 s e.is e.dp A E Q q
/-- a search among such tuples shows nothing -/
theorem El.seen {s : Shared} {k : NestedKey} {a : Addr} (e : El s.heap k a) {ys : List Value} (hy : ∀ y ∈ ys, ∃ k' c, y = Value.ref c ∧ El s.heap k' c) : Says P w s (searchCouldBeSeen (.ref a) ys) false := fun A E Q q => by
  unfold searchCouldBeSeen
  refine wpAny_bind (loop_on (T := fun y => ∃ k' c, y = Value.ref c ∧ El s.heap k' c) ?_ ys hy ?_)
  · intro v hv R r
    obtain ⟨k', c, rfl, e'⟩ := hv
    dsimp only
    by_cases c1 : (a == c || (carriedByValue (.ref a) && carriedByValue (.ref c))) = true
    · exact wp_if_pos c1 (wpAny_pure r)
    · refine wp_if_neg c1 (wpAny_bind (e.qui _ _ _ ?_))
      simp only [Bool.not_true, Bool.false_eq_true, if_false]
      refine wpAny_bind (e'.qui _ _ _ ?_)
      simp only [Bool.not_true, Bool.false_eq_true, if_false]
      refine wpAny_bind (e.cls _ _ _ ?_)
      simp only [Bool.false_eq_true, if_false]
      refine wpAny_bind (e'.cls _ _ _ ?_)
      simp only [Bool.false_eq_true, if_false]
      exact wpAny_pure r
  · exact wpAny_pure q
end
end DLS
end
section
/-! tables of sets with masks up to 511 -/
namespace DLS
open PySem PySem.Spec PyProof.Rows L2
def Msk (n : Nat) : Prop := MaskOk n ∨ n = 511
/-- the round from x on, n numbers long -/
def orb : Nat → Nat → List Nat
  | 0, _ => []
  | n + 1, x => x :: orb n ((x * 5 + 1) % 512)
theorem lcg_tail (c x : Nat) : ∀ b, lcgI c x (b + 1) = lcgI c ((x * 5 + 1) % (c + 1)) b
  | 0 => rfl
  | b + 1 => congrArg (fun z => (z * 5 + 1) % (c + 1)) (lcg_tail c x b)
theorem orb_mem {y : Nat} : ∀ {n x : Nat}, y ∈ orb n x → ∃ b, b < n ∧ lcgI 511 x b = y
  | 0, x, h => absurd h List.not_mem_nil
  | n + 1, x, h => by
    rcases List.mem_cons.mp h with e | h
    · exact ⟨0, Nat.succ_pos _, e.symm⟩
    · obtain ⟨b, lt, e⟩ := orb_mem h
      exact ⟨b + 1, Nat.succ_lt_succ lt, by rw [lcg_tail]; exact e⟩
theorem orb_whole : ((List.range 512).all fun y => (orb 512 0).contains y) = true := by decide +kernel
theorem orb_close : lcgI 511 0 512 = 0 := by decide +kernel
theorem orb_hits {y : Nat} (h : y ≤ 511) : ∃ b, b < 512 ∧ lcgI 511 0 b = y :=
  orb_mem (List.contains_iff_mem.mp (List.all_eq_true.mp orb_whole y (List.mem_range.mpr (by omega))))
theorem lcg_plus (c x : Nat) (a : Nat) : ∀ b, lcgI c x (a + b) = lcgI c (lcgI c x a) b
  | 0 => rfl
  | b + 1 => congrArg (fun z => (z * 5 + 1) % (c + 1)) (lcg_plus c x a b)
theorem all_met {n x y : Nat} (h : Msk n) (hx : x ≤ n) (hy : y ≤ n) : ∃ b, b ≤ n ∧ lcgI n x b = y := by
  rcases h with h | rfl
  · exact lcgI_all h hx hy
  · obtain ⟨a, a1, rfl⟩ := orb_hits hx
    obtain ⟨b, b1, rfl⟩ := orb_hits hy
    by_cases le : a ≤ b
    · exact ⟨b - a, by omega, by rw [← lcg_plus, show a + (b - a) = b by omega]⟩
    · refine ⟨512 + b - a, by omega, ?_⟩
      rw [← lcg_plus, show a + (512 + b - a) = 512 + b by omega, lcg_plus, orb_close]
theorem meets {n y : Nat} (h : Msk n) (z : Int) (hy : y ≤ n) : ∃ c, c ≤ n + 12 ∧ runI n (SetTable.bits z) c = y := by
  obtain ⟨b, b1, b2⟩ := all_met h (runI_le n (SetTable.bits z) 12) hy
  refine ⟨12 + b, by omega, ?_⟩
  rw [runI_tail (bits_lt z), b2]
theorem way_met {n y : Nat} (h : Msk n) (z : Int) (hy : y ≤ n) : ∃ c, c < 10 * SetTable.turns n ∧ way n z c = y := by
  obtain ⟨c, c1, c2⟩ := meets h z hy
  obtain ⟨d, d1, d2⟩ := run_nth n (SetTable.bits z) c
  refine ⟨d, by unfold SetTable.turns; omega, ?_⟩
  have e : way n z d = runI n (SetTable.bits z) c := congrArg SetTable.Probe.j d2
  rw [e, c2]
/-- what stands in a table is found from its hash -/
structure Tab (t : SetTable) (zs : List Int) : Prop where
  ris : Ris t.place.toList
  dm : t.dummies = #[]
  sz : t.place.size = zs.length
  mok : Msk t.mask
  bd : ∀ y ∈ t.place.toList, y ≤ t.mask
  met : ∀ q ∈ zs.zip t.place.toList, ∃ c, way t.mask q.1 c = q.2 ∧ ∀ d, d < c → way t.mask q.1 d ∈ t.place.toList
theorem Tab.first {t : SetTable} {zs : List Int} (B : Tab t zs) (room : zs.length ≤ t.mask) (z : Int) : ∃ N, N < 10 * SetTable.turns t.mask ∧ way t.mask z N ∉ t.place.toList ∧ ∀ c, c < N → way t.mask z c ∈ t.place.toList := by
  have sz := B.sz
  obtain ⟨y, y1, y2⟩ := st_missing t.place.toList (t.mask + 1) (by rw [Array.length_toList]; omega)
  obtain ⟨c, c1, rfl⟩ := way_met B.mok z (Nat.le_of_lt_succ y1)
  obtain ⟨N, n1, n2, n3⟩ := st_least (p := fun c => way t.mask z c ∉ t.place.toList) c y2
  exact ⟨N, by omega, n2, fun d hd => Classical.byContradiction (n3 d hd)⟩
theorem Tab.before {t : SetTable} {zs : List Int} (B : Tab t zs) {z : Int} {N i y : Nat} (fr : way t.mask z N ∉ t.place.toList) (hz : zs[i]? = some z) (hy : t.place.toList[i]? = some y) : ∃ c, c < N ∧ way t.mask z c = y := by
  have m : (z, y) ∈ zs.zip t.place.toList := List.mem_of_getElem? (i := i) (by rw [List.getElem?_zip_eq_some]; exact ⟨hz, hy⟩)
  obtain ⟨c, c1, c2⟩ := B.met _ m
  dsimp only at c1 c2
  refine ⟨c, ?_, c1⟩
  apply Classical.byContradiction
  intro ge
  by_cases e : c = N
  · subst e
    exact fr (by rw [c1]; exact List.mem_of_getElem? hy)
  · exact fr (c2 N (by omega))
/-! a table laid anew -/
end DLS
end
section
namespace DLS
open PySem PySem.Spec PyProof.Rows L2
abbrev Ent := Addr × NestedKey
abbrev hk (w : World) (k : NestedKey) : Int := k.hash w
def rws (w : World) (L : List Ent) : List (Int × Value) := L.map fun e => (hk w e.2, Value.ref e.1)
/-- where the way of the hash stands -/
abbrev pb (t : SetTable) (z : Int) (n : Nat) : SetTable.Probe := nth t.mask (runAt t.mask (SetTable.bits z % (t.mask + 1)) (SetTable.bits z)) n
/-- the set at a holds the entries L, in the table's order -/
structure Tb (w : World) (h : Heap) (a : Addr) (L : List Ent) (es : Array (Int × Value)) (ep : Nat) (t : SetTable) : Prop where
  at_ : ∃ o, h.get? a = some o ∧ o.ExactSet ∧ o.data = .set es ep t
  rw_ : es.toList = rws w L
  tab : Tab t (L.map fun e => hk w e.2)
  dif : (L.map (·.2)).Nodup
  els : ∀ e ∈ L, El h e.2 e.1
  led : w.params.followText "set-order" = true ∨ t.led = true
  spc : L.length * 5 < t.mask * 3
  few : L.length < 307
section
variable {P : Program} {w : World} {A : Around} {E : Value → Shared → Prop} {s : Shared} {a : Addr} {L : List Ent} {es : Array (Int × Value)} {ep : Nat} {t : SetTable}
theorem rws_len (L : List Ent) : (rws w L).length = L.length := by unfold rws; rw [List.length_map]
theorem size_of (h : es.toList = rws w L) : es.size = L.length := by rw [← rws_len (w := w) L, ← h, Array.length_toList]
theorem Tb.sz (B : Tb w s.heap a L es ep t) : es.size = L.length := size_of B.rw_
end
end DLS
end
section
namespace DLS
open PySem PySem.Spec PyProof.Rows L2
section
variable {P : Program} {w : World} {A : Around} {E : Value → Shared → Prop} {s : Shared} {a : Addr} {L : List Ent} {es : Array (Int × Value)} {ep : Nat} {t : SetTable}
end
end DLS
end
section
namespace DLS
open PySem PySem.Spec PyProof.Rows L2
section
variable {P : Program} {w : World} {A : Around} {E : Value → Shared → Prop} {s : Shared}
/-- what the first n of the entries ks have come to -/
structure Upto (ks : List Ent) (n : Nat) (L : List Ent) : Prop where
  sub : ∀ e ∈ L, e ∈ ks.take n
  all : ∀ e ∈ ks.take n, e.2 ∈ L.map (·.2)
theorem take_one {ks : List Ent} {n : Nat} {x : Ent} (h : ks[n]? = some x) : ks.take (n + 1) = ks.take n ++ [x] := by rw [List.take_succ, h]; rfl
theorem Upto.old {ks L : List Ent} {n : Nat} {x : Ent} (u : Upto ks n L) (h : ks[n]? = some x) (hm : x.2 ∈ L.map (·.2)) : Upto ks (n + 1) L := by
  rw [show Upto ks (n + 1) L ↔ _ from Iff.rfl]
  constructor <;> rw [take_one h]
  · exact fun e he => List.mem_append_left _ (u.sub e he)
  · intro e he
    rcases List.mem_append.mp he with z | z
    · exact u.all e z
    · rw [List.mem_singleton.mp z]; exact hm
theorem Upto.new {ks L M : List Ent} {n : Nat} {x : Ent} (u : Upto ks n L) (h : ks[n]? = some x) (pm : M.Perm (x :: L)) : Upto ks (n + 1) M := by
  constructor <;> rw [take_one h]
  · intro e he
    rcases List.mem_cons.mp (pm.mem_iff.mp he) with z | z
    · exact List.mem_append_right _ (by rw [z]; exact List.mem_singleton.mpr rfl)
    · exact List.mem_append_left _ (u.sub e z)
  · intro e he
    rw [(pm.map (·.2)).mem_iff, List.map_cons]
    rcases List.mem_append.mp he with z | z
    · exact List.mem_cons_of_mem _ (u.all e z)
    · rw [List.mem_singleton.mp z]; exact List.mem_cons_self
end
end DLS
end
section
namespace DL
open PySem PySem.Spec L2 PySem.SeqAt
open PyProof.Rows hiding St

/-! ### order of data -/
/-- the two can be asked for their order -/
def cmpD (a b : D) : Bool := okD a && okD b && PySem.W.alike (toPy a) (toPy b) && !isNb a
def dLt (a b : D) : Bool := PySem.W.dataLt (toPy a) (toPy b)
def rOrd (K : PySem.W.Frag) (g : PyData → PyData → Bool) : R2 := fun x y H Q => ∃ d e, Dp K H x d ∧ Dp K H y e ∧ PySem.W.alike d e = true ∧ d ≠ .none ∧ min d.depth e.depth ≤ 64 ∧ Q (.bl (g d e)) H
section
variable {X : Cx}
theorem op_ltO (hv : X.A.units + 130 < cLine) : OpR X (compareOp .Lt) (rOrd X.K fun d e => PySem.W.dataLt d e) := by
  intro pins s σ H x y v u Q I rx ry ⟨d, e, hd, he, al, nn, hz, q⟩
  obtain ⟨as, r1⟩ := Dp.reads I d x v hd rx
  obtain ⟨bs, r2⟩ := Dp.reads I e y u he ry
  exact PySem.W.lt_data r1 r2 al nn (by omega) ⟨.bl _, H, I, rfl, q⟩
theorem op_gtO (hv : X.A.units + 130 < cLine) : OpR X (compareOp .Gt) (rOrd X.K fun d e => PySem.W.dataLt e d) := by
  intro pins s σ H x y v u Q I rx ry ⟨d, e, hd, he, al, nn, hz, q⟩
  obtain ⟨as, r1⟩ := Dp.reads I d x v hd rx
  obtain ⟨bs, r2⟩ := Dp.reads I e y u he ry
  exact PySem.W.gt_data r1 r2 al nn (by omega) ⟨.bl _, H, I, rfl, q⟩
theorem op_leO (hv : X.A.units + 130 < cLine) : OpR X (compareOp .LtE) (rOrd X.K fun d e => !PySem.W.dataLt e d) := by
  intro pins s σ H x y v u Q I rx ry ⟨d, e, hd, he, al, nn, hz, q⟩
  obtain ⟨as, r1⟩ := Dp.reads I d x v hd rx
  obtain ⟨bs, r2⟩ := Dp.reads I e y u he ry
  exact PySem.W.le_data r1 r2 al nn (by omega) ⟨.bl _, H, I, rfl, q⟩
theorem op_geO (hv : X.A.units + 130 < cLine) : OpR X (compareOp .GtE) (rOrd X.K fun d e => !PySem.W.dataLt d e) := by
  intro pins s σ H x y v u Q I rx ry ⟨d, e, hd, he, al, nn, hz, q⟩
  obtain ⟨as, r1⟩ := Dp.reads I d x v hd rx
  obtain ⟨bs, r2⟩ := Dp.reads I e y u he ry
  exact PySem.W.ge_data r1 r2 al nn (by omega) ⟨.bl _, H, I, rfl, q⟩
end
section
variable {m : Md}
theorem opd_ord {g : PyData → PyData → Bool} : OpD m (rOrd m.K g) (fun a b => if cmpD a b = true then some (.bl (g (toPy a) (toPy b))) else none) := fun x y dx dy d H Q rx ry e k => by
  have e : (if cmpD dx dy = true then some (D.bl (g (toPy dx) (toPy dy))) else none) = some d := e
  by_cases c : cmpD dx dy = true
  · rw [if_pos c] at e; cases e
    unfold cmpD at c
    simp only [Bool.and_eq_true, Bool.not_eq_true'] at c
    obtain ⟨⟨⟨c1, c2⟩, c3⟩, c4⟩ := c
    refine ⟨toPy dx, toPy dy, rx.dp (SeqAt.canLay_of_shaped c1), ry.dp (SeqAt.canLay_of_shaped c2), c3, ?_, Nat.le_trans (Nat.min_le_left _ _) (SeqAt.depth_of_shaped c1), k _ H Grow.rfl (.bl _)⟩
    cases dx <;> simp [toPy, isNb] at c4 ⊢
  · rw [if_neg c] at e; cases e
def ltA (a b : D) : Option D := (ltD a b).or (if cmpD a b = true then some (.bl (dLt a b)) else none)
def gtA (a b : D) : Option D := (gtD a b).or (if cmpD a b = true then some (.bl (dLt b a)) else none)
def leA (a b : D) : Option D := (leD a b).or (if cmpD a b = true then some (.bl (!dLt b a)) else none)
def geA (a b : D) : Option D := (geD a b).or (if cmpD a b = true then some (.bl (!dLt a b)) else none)
def rLtA (K : PySem.W.Frag) : R2 := fun x y H Q => (rI0 fun i j => .bl (decide (i < j))) x y H Q ∨ rOrd K (fun d e => PySem.W.dataLt d e) x y H Q
def rGtA (K : PySem.W.Frag) : R2 := fun x y H Q => (rI0 fun i j => .bl (decide (j < i))) x y H Q ∨ rOrd K (fun d e => PySem.W.dataLt e d) x y H Q
def rLeA (K : PySem.W.Frag) : R2 := fun x y H Q => (rI0 fun i j => .bl (decide (i ≤ j))) x y H Q ∨ rOrd K (fun d e => !PySem.W.dataLt e d) x y H Q
def rGeA (K : PySem.W.Frag) : R2 := fun x y H Q => (rI0 fun i j => .bl (decide (j ≤ i))) x y H Q ∨ rOrd K (fun d e => !PySem.W.dataLt d e) x y H Q
theorem opd_ltA : OpD m (rLtA m.K) ltA := opd_lt.or opd_ord
theorem opd_gtA : OpD m (rGtA m.K) gtA := opd_gt.or opd_ord
theorem opd_leA : OpD m (rLeA m.K) leA := opd_le.or opd_ord
theorem opd_geA : OpD m (rGeA m.K) geA := opd_ge.or opd_ord
theorem op_ltA {X : Cx} (hv : X.A.units + 130 < cLine) : OpR X (compareOp .Lt) (rLtA X.K) := op_lt.or (op_ltO hv)
theorem op_gtA {X : Cx} (hv : X.A.units + 130 < cLine) : OpR X (compareOp .Gt) (rGtA X.K) := op_gt.or (op_gtO hv)
theorem op_leA {X : Cx} (hv : X.A.units + 130 < cLine) : OpR X (compareOp .LtE) (rLeA X.K) := op_le.or (op_leO hv)
theorem op_geA {X : Cx} (hv : X.A.units + 130 < cLine) : OpR X (compareOp .GtE) (rGeA X.K) := op_ge.or (op_geO hv)

/-! ### x in y -/
/-- the key that a dict knows it by -/
def sameK : D → D → Bool
  | .int i, .int j => decide (i = j)
  | .str i, .str j => decide (i = j)
  | _, _ => false
def dicGet (x : D) : List D → List D → Option D
  | k :: ks, v :: vs => if sameK k x = true then some v else dicGet x ks vs
  | _, _ => none
def inD (x y : D) : Option D := match y with
  | .lst ds => if (okD x && okD y) = true then some (.bl (ds.any fun z => eqvD z x)) else none
  | .tup ds => if (okD x && okD y) = true then some (.bl (ds.any fun z => eqvD z x)) else none
  | .str z => (match x with
    | .str w => (match w.cps.toList with
      | [c] => some (.bl (decide (c ∈ z.cps.toList)))
      | _ => none)
    | _ => none)
  | .dic ks vs => if (isK x && ks.all isK) = true then some (.bl (dicGet x ks vs).isSome) else none
  | _ => none
def ninD (x y : D) : Option D := (inD x y).map fun d => match d with
  | .bl b => .bl (!b)
  | d => d
def rInA (K : PySem.W.Frag) : R2 := fun x y H Q => rInD K x y H Q ∨
  (∃ d ds, Dp K H x d ∧ Dp K H y (.tuple ds) ∧ SeqAt.shaped d = true ∧ SeqAt.shaped (.tuple ds) = true ∧ Q (.bl (ds.any fun z => PyData.eqv z d)) H) ∨
  (∃ (c : Nat) (z : Str), x = .str ⟨#[c]⟩ ∧ y = .str z ∧ Q (.bl (decide (c ∈ z.cps.toList))) H) ∨
  (∃ a o, y = .ref a ∧ DGet H a x o ∧ Q (.bl o.isSome) H)
section
variable {X : Cx}
theorem op_inT (hv : X.A.units + 130 < cLine) : OpR X (compareOp .In) (fun x y H Q => ∃ d ds, Dp X.K H x d ∧ Dp X.K H y (.tuple ds) ∧ SeqAt.shaped d = true ∧ SeqAt.shaped (.tuple ds) = true ∧ Q (.bl (ds.any fun z => PyData.eqv z d)) H) := by
  intro pins s σ H x y v u Q I rx ry ⟨d, ds, hd, he, sd, se, q⟩
  obtain ⟨as, r1⟩ := Dp.reads I d x v hd rx
  obtain ⟨bs, r2⟩ := Dp.reads I (.tuple ds) y u he ry
  exact SeqAt.in_tuple_reads r2 r1 (SeqAt.canLay_of_shaped se) (SeqAt.canLay_of_shaped sd) (room_in_shaped sd (by omega)) ⟨.bl _, H, I, rfl, q⟩
theorem op_inK (hv : X.A.units + 130 < cLine) : OpR X (compareOp .In) (fun x y H Q => ∃ a o, y = .ref a ∧ DGet H a x o ∧ Q (.bl o.isSome) H) := by
  intro pins s σ H x y v u Q I rx ry ⟨a, o, ey, g, q⟩
  subst ey
  obtain rfl : u = Value.ref a := ry
  exact d_in (by omega) I g rx fun s2 I2 => ⟨.bl _, H, I2, rfl, q⟩
theorem op_inA (hv : X.A.units + 130 < cLine) : OpR X (compareOp .In) (rInA X.K) := (op_inD (by omega)).or ((op_inT hv).or (op_in_sign.or (op_inK hv)))
end
theorem any_py (x : D) : ∀ ds : List D, (toPyL ds).any (fun z => PyData.eqv z (toPy x)) = ds.any fun z => eqvD z x
  | [] => rfl
  | d :: ds => by simp only [toPyL, List.any_cons, any_py x ds, eqvD]
theorem key_rep {H : Hp} {v : V} {x : D} (r : Rep m H v x) (h : isK x = true) : ∃ k : Key, v = kV k ∧ x = keyD k := by
  cases r <;> first | exact ⟨.inl _, rfl, rfl⟩ | exact ⟨.inr _, rfl, rfl⟩ | simp [isK] at h
theorem same_key (k k' : Key) : sameK (keyD k) (keyD k') = decide (k = k') := by
  cases k <;> cases k' <;> simp [sameK, keyD]
/-- what a frozen dict gives for a key -/
theorem dget_rep {H : Hp} (k : Key) : ∀ {kvs : List (Key × V)} {ds : List D}, RepL m H (kvs.map (·.2)) ds → (∀ d, dicGet (keyD k) (kvs.map fun p => keyD p.1) ds = some d → ∃ v, valV kvs k = some v ∧ Rep m H v d) ∧ (dicGet (keyD k) (kvs.map fun p => keyD p.1) ds = none → valV kvs k = none)
  | [], ds, r => ⟨fun d h => by cases r; simp [dicGet] at h, fun _ => rfl⟩
  | (k0, v0) :: kvs, ds, r => by
    cases r with
    | cons a b =>
      obtain ⟨i1, i2⟩ := dget_rep k b
      simp only [List.map_cons, dicGet, same_key]
      by_cases e : k0 = k
      · have ev : valV ((k0, v0) :: kvs) k = some v0 := by unfold valV; simp [e]
        refine ⟨fun d h => ?_, fun h => ?_⟩
        · simp [e] at h; subst h; exact ⟨v0, ev, a⟩
        · simp [e] at h
      · have ev : valV ((k0, v0) :: kvs) k = valV kvs k := by unfold valV; simp [e]
        refine ⟨fun d h => ?_, fun h => ?_⟩
        · simp [e] at h; rw [ev]; exact i1 d h
        · simp [e] at h; rw [ev]; exact i2 h
theorem dget_frz {H : Hp} {a : Addr} {o : Obj} {kvs : List (Key × V)} (e : H a = some (.frz o (.dK kvs))) (k : Key) : DGet H a (kV k) (valV kvs k) := .inl ⟨kvs, k, .inr ⟨o, e⟩, rfl, rfl⟩
theorem opd_in : OpD m (rInA m.K) inD := fun x y dx dy d H Q rx ry e k => by
  unfold inD at e
  split at e
  · rename_i ds
    split at e
    · rename_i c
      rw [Bool.and_eq_true] at c
      cases e
      refine .inl ⟨toPy dx, toPyL ds, rx.dp (SeqAt.canLay_of_shaped c.1), ry.dp (SeqAt.canLay_of_shaped c.2), c.1, c.2, ?_⟩
      rw [any_py]; exact k _ H Grow.rfl (.bl _)
    · cases e
  · rename_i ds
    split at e
    · rename_i c
      rw [Bool.and_eq_true] at c
      cases e
      refine .inr (.inl ⟨toPy dx, toPyL ds, rx.dp (SeqAt.canLay_of_shaped c.1), ry.dp (SeqAt.canLay_of_shaped c.2), c.1, c.2, ?_⟩)
      rw [any_py]; exact k _ H Grow.rfl (.bl _)
    · cases e
  · cases ry
    cases rx with
    | str w =>
      obtain ⟨⟨l⟩⟩ := w
      cases l with
      | nil => cases e
      | cons c l =>
        cases l with
        | nil =>
          cases e
          exact .inr (.inr (.inl ⟨c, _, rfl, rfl, k _ H Grow.rfl (.bl _)⟩))
        | cons _ _ => cases e
    | _ => cases e
  · split at e
    · rename_i c
      cases e
      rw [Bool.and_eq_true] at c
      obtain ⟨ky, rfl, rfl⟩ := key_rep rx c.1
      cases ry with
      | dicN q n e r1 r2 => exact (notK r1 n c.2).elim
      | dicK q r =>
        rename_i a o kvs
        obtain ⟨i1, i2⟩ := dget_rep ky r
        refine .inr (.inr (.inr ⟨_, _, rfl, dget_frz q ky, ?_⟩))
        cases hg : dicGet (keyD ky) (kvs.map fun p => keyD p.1) _ with
        | none => rw [i2 hg]; rw [hg] at k; exact k _ H Grow.rfl (.bl _)
        | some d =>
          obtain ⟨v, h1, h2⟩ := i1 d hg
          rw [h1]; rw [hg] at k; exact k _ H Grow.rfl (.bl _)
    · cases e
  · cases e
end
/-! ### a < b < c -/
section
variable {X : Cx} {G : Gh} {W : WX} {a b c : Expr} {pos : Pos}
def chainM (g g' : D → D → Option D) (fa fb fc : M D) : M D := bindM fa fun x => bindM fb fun y => bindM (liftM (g x y)) fun z => match z with
  | .bl true => bindM fc fun w => liftM (g' y w)
  | .bl false => pureM (.bl false)
  | _ => stuckM
theorem chain_run {r r' : R2} {g g' : D → D → Option D} {fa fb fc : M D} {ta tb tc : TE} (hr : OpD G.m r g) (hr' : OpD G.m r' g') (ia : ∀ σ H Q, dT G W fa σ H Q → ta σ H Q) (ib : ∀ σ H Q, dT G W fb σ H Q → tb σ H Q) (ic : ∀ σ H Q, dT G W fc σ H Q → tc σ H Q) {σ : L2.St} {H : Hp} {Q : VK}
    (h : dT G W (chainM g g' fa fb fc) σ H Q) : tChain r r' ta tb tc σ H Q := by
  obtain ⟨ρ, k, q⟩ := h
  refine ia _ _ _ ⟨ρ, k, q.bind.mono fun x ρ1 H1 _ s1 k1 q1 v rv => ?_⟩
  refine ib _ _ _ ⟨ρ1, k1, q1.bind.mono fun y ρ2 H2 _ s2 k2 q2 w rw' => ?_⟩
  have q2 := q2.bind
  obtain ⟨d, e, q3⟩ := q2.lift k2
  refine hr v w x y d H2 _ (rv.st s2) rw' e fun u H3 g3 r3 => ?_
  have q4 := q3 H3 g3.stable (k2.grow g3)
  have k3 := k2.grow g3
  cases r3 with
  | bl b0 =>
    refine ⟨b0, rfl, ?_⟩
    cases b0 with
    | false => rw [if_neg (by decide)]; exact q4 H3 Stable.rfl k3 _ (.bl false)
    | true =>
      rw [if_pos rfl]
      refine ic _ _ _ ⟨ρ2, k3, (postG.bind q4).mono fun z ρ4 H4 _ s4 k4 q5 w' r' => ?_⟩
      obtain ⟨d', e', q6⟩ := q5.lift k4
      exact hr' w w' y z d' H4 Q ((rw'.st g3.stable).st s4) r' e' fun u' H5 g5 r5 => q6 H5 g5.stable (k4.grow g5) u' r5
  | _ => exact q4.elim
theorem dt_chain {op op' : CmpOp} {r r' : R2} {g g' : D → D → Option D} {fa fb fc : M D} (ho : OpR X (compareOp op) r) (hr : OpD G.m r g) (ho' : OpR X (compareOp op') r') (hr' : OpD G.m r' g') (ha : DE X G W a fa) (hb : DE X G W b fb) (hc : DE X G W c fc) (hm : lastMarks [op, op'] [b, c] = false := by with_unfolding_all rfl) : DT X G W (.Compare a [op, op'] [b, c] pos) (boolM (chainM g g' fa fb fc)) :=
  pt_imp (pt_chain ho ho' ha hb hc hm) fun σ H Q ⟨ρ, k, q⟩ => chain_run hr hr' (fun _ _ _ z => z) (fun _ _ _ z => z) (fun _ _ _ z => z) ⟨ρ, k, q.bind.mono fun d ρ1 H1 _ s1 k1 q1 v r => by
    cases r with
    | bl b => exact ⟨b, rfl, q1 H1 Stable.rfl k1⟩
    | _ => exact q1.elim⟩
end
end DL
end
section
namespace DL
open PySem PySem.Spec L2 PySem.SeqAt
open PyProof.Rows hiding St

/-! ### fields -/
def fldD (f : Str) : List Str → List D → Option D
  | n :: ns, d :: ds => if n = f then some d else fldD f ns ds
  | _, _ => none
/-- the class c of the text and its fields -/
structure ClsD (K : PySem.W.Frag) (mg : Str → Option Value) (c : Str) (fs : List Str) : Prop where
  ex : ∃ C, mg c = some (.ref C) ∧ Cls K C ∧ ∀ f ∈ fs, NoAttr K C f
def fldM (c f : Str) (fo : M D) : M D := bindM fo fun o => match o with
  | .ins c' ns ds => if c' = c then liftM (fldD f ns ds) else stuckM
  | _ => stuckM
section
variable {X : Cx} {G : Gh} {W : WX} {o e : Expr} {es : List Expr} {pos apos : Pos} {c f : Str} {fs : List Str}
/-! ### methods -/
variable {CX : CXT} {kk : Nat} {fA C : Addr} {fd : FuncData} {ps : List Str} {sp : Sp} {E : L2.St → XK} {nm : Str} {to : TE} {ta : TA} {pl : Sem Bool}
end
/-- a method of the text -/
structure DMe (P : Program) (w : World) (K : PySem.W.Frag) (mg : Str → Option Value) (base : Heap) (c nm : Str) (k : Nat) (md : List Bool) (f : Fn) : Prop where
  ex : ∃ C fA fd ps, mg c = some (.ref C) ∧ Cls K C ∧ Meth K C nm fA ∧ Binds K fd ps [] ∧ FnOk P w K mg base (L2.CX P w) k fA fd ps (spD ⟨K, mg, w⟩ none md .f f)
theorem DMe.mono {P : Program} {w : World} {K : PySem.W.Frag} {mg : Str → Option Value} {base : Heap} {c nm : Str} {j k : Nat} {md : List Bool} {f : Fn} (h : DMe P w K mg base c nm j md f) (hj : j ≤ k) : DMe P w K mg base c nm k md f := by
  obtain ⟨C, fA, fd, ps, h1, h2, h3, h4, h5⟩ := h.ex
  exact ⟨C, fA, fd, ps, h1, h2, h3, h4, h5.mono hj⟩
def methD (c nm : Str) (md : List Bool) (f : Fn) (fo : M D) (fa : M (List Ag)) : M D := bindM fo fun x => match x with
  | .ins c' ns ds => if c' = c ∧ nm ∉ ns then callM f (mdM md (bindM fa fun ags => pureM (.d (.ins c' ns ds) :: ags))) else stuckM
  | _ => stuckM
section
variable {X : Cx} {G : Gh} {W : WX} {o e : Expr} {es : List Expr} {pos apos : Pos} {c nm : Str} {j k : Nat} {md : List Bool} {f : Fn} {fo : M D} {fa : M (List Ag)} {pl : Sem Bool}
end
end DL
end
section
namespace DL
open PySem PySem.Spec L2 PySem.SeqAt
open PyProof.Rows hiding St

/-! ### sorted -/
section
variable {α : Type} {le : α → α → Bool}
def insO (le : α → α → Bool) (x : α) : List α → List α
  | [] => [x]
  | y :: l => if le x y = true then x :: y :: l else y :: insO le x l
def isort (le : α → α → Bool) : List α → List α
  | [] => []
  | x :: l => insO le x (isort le l)
theorem insO_mem {x z : α} : ∀ {l : List α}, z ∈ insO le x l → z = x ∨ z ∈ l
  | [], h => by simp [insO] at h; exact .inl h
  | y :: l, h => by
    unfold insO at h
    by_cases c : le x y = true
    · rw [if_pos c] at h; simpa using h
    · rw [if_neg c] at h
      rcases List.mem_cons.mp h with h | h
      · exact .inr (by rw [h]; exact List.mem_cons_self)
      · rcases insO_mem h with h | h
        · exact .inl h
        · exact .inr (List.mem_cons_of_mem _ h)
theorem insO_pw (T : PySem.W.TotalLe le) {x : α} : ∀ {l : List α}, l.Pairwise (fun a b => le a b = true) → (insO le x l).Pairwise (fun a b => le a b = true)
  | [], _ => List.pairwise_singleton _ _
  | y :: l, h => by
    obtain ⟨h1, h2⟩ := List.pairwise_cons.mp h
    unfold insO
    by_cases c : le x y = true
    · rw [if_pos c]
      refine List.pairwise_cons.mpr ⟨fun z hz => ?_, h⟩
      rcases List.mem_cons.mp hz with rfl | hz
      · exact c
      · exact T.trans _ _ _ c (h1 z hz)
    · rw [if_neg c]
      refine List.pairwise_cons.mpr ⟨fun z hz => ?_, insO_pw T h2⟩
      rcases insO_mem hz with rfl | hz
      · exact (T.total z y).resolve_left c
      · exact h1 z hz
theorem isort_pw (T : PySem.W.TotalLe le) : ∀ l : List α, (isort le l).Pairwise (fun a b => le a b = true)
  | [] => List.Pairwise.nil
  | x :: l => insO_pw T (isort_pw T l)
theorem insO_filter (T : PySem.W.TotalLe le) {x c : α} : ∀ l : List α, l.Pairwise (fun a b => le a b = true) → (insO le x l).filter (PySem.W.sameRank le c) = (x :: l).filter (PySem.W.sameRank le c)
  | [], _ => rfl
  | y :: l, h => by
    obtain ⟨h1, h2⟩ := List.pairwise_cons.mp h
    unfold insO
    by_cases q : le x y = true
    · rw [if_pos q]
    · rw [if_neg q]
      have ih := insO_filter T (x := x) (c := c) l h2
      rw [List.filter_cons, ih]
      simp only [List.filter_cons]
      cases ey : PySem.W.sameRank le c y <;> cases ex : PySem.W.sameRank le c x <;> simp
      unfold PySem.W.sameRank at ey ex
      rw [Bool.and_eq_true] at ey ex
      exact absurd (T.trans _ _ _ ex.2 ey.1) q
theorem isort_filter (T : PySem.W.TotalLe le) (c : α) : ∀ l : List α, (isort le l).filter (PySem.W.sameRank le c) = l.filter (PySem.W.sameRank le c)
  | [] => rfl
  | x :: l => by
    show (insO le x (isort le l)).filter _ = _
    rw [insO_filter T _ (isort_pw T l), List.filter_cons, List.filter_cons, isort_filter T c l]
theorem isort_eq (T : PySem.W.TotalLe le) (l : List α) : isort le l = l.mergeSort le := PySem.W.sort_unique T (isort_pw T l) fun c => isort_filter T c l
end
/-- a <= b, for sorting -/
def dLe (a b : D) : Bool := !dLt b a
def keyT (d : D) : List (Int ⊕ List Nat) := PySem.W.keyToks (toPy d)
theorem dLe_eq : dLe = PySem.W.sortLe (PyProof.Rows.listOrd PyProof.Rows.itemOrd) false keyT := rfl
theorem dLe_total : PySem.W.TotalLe dLe := by rw [dLe_eq]; exact PySem.W.sortLe_total _ _ _
def srtD (ds : List D) : List D := isort dLe ds
def isTup : D → Bool
  | .tup (_ :: _) => true
  | _ => false
def notTup : D → Bool
  | .tup _ => false
  | .non => false
  | _ => true
def canSort (ds : List D) : Bool := ds.all okD && ((ds.all fun d => ds.all fun e => PySem.W.alike (toPy d) (toPy e)) && (ds.all isTup || ds.all notTup))
section
variable {m : Md}
def sortL : List D → Option (List D)
  | [.lst ds] => if canSort ds = true then some (srtD ds) else none
  | _ => none
end
end DL
end
section
namespace DL
open PySem PySem.Spec L2 PySem.SeqAt
open PyProof.Rows hiding St

theorem callR_or {X : Cx} {f : Value} {r r' : List V → Hp → VK → Prop} (h : CallR X f r) (h' : CallR X f r') : CallR X f (fun xs H Q => r xs H Q ∨ r' xs H Q) := fun pins s σ H xs us Q I rv q => by
  rcases q with q | q
  · exact h pins s σ H xs us Q I rv q
  · exact h' pins s σ H xs us Q I rv q
section
variable {m : Md}
theorem CallD.or {r r' : List V → Hp → VK → Prop} {g g' : List D → Option D} (h : CallD m r g) (h' : CallD m r' g') : CallD m (fun xs H Q => r xs H Q ∨ r' xs H Q) (fun ds => (g ds).or (g' ds)) := fun vs ds d H Q rs e k => by
  have e : (g ds).or (g' ds) = some d := e
  cases q : g ds with
  | some z => rw [q] at e; cases e; exact .inl (h vs ds _ H Q rs q k)
  | none => rw [q] at e; exact .inr (h' vs ds d H Q rs e k)
theorem CallO.or {r r' : List V → Hp → VK → Prop} {g g' : List D → Option (List D)} (h : CallO m r g) (h' : CallO m r' g') : CallO m (fun xs H Q => r xs H Q ∨ r' xs H Q) (fun ds => (g ds).or (g' ds)) := fun vs ds d H Q rs e k => by
  have e : (g ds).or (g' ds) = some d := e
  cases q : g ds with
  | some z => rw [q] at e; cases e; exact .inl (h vs ds _ H Q rs q k)
  | none => rw [q] at e; exact .inr (h' vs ds d H Q rs e k)
end
def strsOf : List D → Option (List Str)
  | [] => some []
  | .str i :: r => (strsOf r).map (i :: ·)
  | _ => none
def lenK : List D → Option D
  | [.dic ks _] => if ks.all isK = true then some (.int ks.length) else none
  | _ => none
theorem call_lenF {X : Cx} : CallR X (.builtin "len") (fun xs H Q => ∃ (a : Addr) (o : Obj) (kvs : List (Key × V)), xs = [V.ref a] ∧ H a = some (.frz o (.dK kvs)) ∧ Q (.int kvs.length) H) := by
  intro pins s σ H xs us Q I r ⟨a, o, kvs, e, ha, q⟩
  subst e
  obtain ⟨u, rfl, ru⟩ := vals1 r
  cases ru
  exact d_len I (.inr ⟨o, ha⟩) fun t s' I' => ⟨.int kvs.length, H, I', ⟨t, rfl⟩, q⟩
section
variable {m : Md}
theorem cd_lenK : CallD m (fun xs H Q => ∃ (a : Addr) (o : Obj) (kvs : List (Key × V)), xs = [V.ref a] ∧ H a = some (.frz o (.dK kvs)) ∧ Q (.int kvs.length) H) lenK := fun vs ds d H Q r e k => by
  unfold lenK at e
  split at e
  · obtain ⟨v, rfl, rv⟩ := one_of r
    rename_i ks vls
    by_cases c : ks.all isK = true
    rotate_left
    · rw [if_neg c] at e; cases e
    rw [if_pos c] at e
    cases e
    cases rv with
    | dicN q n e r1 r2 => exact (notK r1 n c).elim
    | dicK q rl =>
      refine ⟨_, _, _, rfl, q, ?_⟩
      rw [List.length_map] at k
      exact k _ H Grow.rfl (.int _)
  · cases e
def lenG (ds : List D) : Option D := (lenD ds).or (lenK ds)
def sumD : List D → Option D
  | [.lst xs] => (intsOf xs).map fun ns => .int ns.sum
  | _ => none
def tupC : List D → Option D
  | [.lst xs] => some (.tup xs)
  | [.tup xs] => some (.tup xs)
  | _ => none
/-! ### d[k] -/
def ixK (x i : D) : Option D := match x with
  | .dic ks vs => if (isK i && ks.all isK) = true then dicGet i ks vs else none
  | _ => none
def ixG (x i : D) : Option D := (ixD x i).or (ixK x i)
def rIxG (K : PySem.W.Frag) : R2 := fun x y H Q => rIx K x y H Q ∨ ∃ a v, x = .ref a ∧ DGet H a y (some v) ∧ Q v H
theorem ix_G {X : Cx} (hv : X.A.units + 130 < cLine) : IxR X (rIxG X.K) := ix_seq.or (by
  intro value slice pins s σ H x y v u Q I rx ry ⟨a, w, ex, g, q⟩ hs
  subst ex
  obtain rfl : v = Value.ref a := rx
  exact tail_any (dict_typeIs I g) slot_dict_getitem.lookup (d_getItem (by omega) I g ry fun w' s' I' rw' => ⟨w, H, I', rw', q⟩) hs)
theorem opd_ixG : OpD m (rIxG m.K) ixG := fun x y dx dy d H Q rx ry e k => by
  unfold ixG at e
  cases q : ixD dx dy with
  | some z => rw [q] at e; cases e; exact .inl (opd_ix x y dx dy _ H Q rx ry q k)
  | none =>
    rw [q] at e
    have e : ixK dx dy = some d := e
    unfold ixK at e
    cases rx with
    | dicN q1 n e' r1 r2 =>
      rename_i a o kvs ks ds _
      have e : (if (isK dy && ks.all isK) = true then dicGet dy ks ds else none) = some d := e
      by_cases c : (isK dy && ks.all isK) = true
      · rw [Bool.and_eq_true] at c; exact (notK r1 n c.2).elim
      · rw [if_neg c] at e; cases e
    | dicK q1 r =>
      rename_i a o kvs ds _
      have e : (if (isK dy && (kvs.map fun p => keyD p.1).all isK) = true then dicGet dy (kvs.map fun p => keyD p.1) ds else none) = some d := e
      by_cases c : (isK dy && (kvs.map fun p => keyD p.1).all isK) = true
      · rw [if_pos c] at e
        rw [Bool.and_eq_true] at c
        obtain ⟨ky, rfl, rfl⟩ := key_rep ry c.1
        obtain ⟨v, h1, h2⟩ := (dget_rep ky r).1 d e
        exact .inr ⟨_, v, rfl, h1 ▸ dget_frz q1 ky, k v H Grow.rfl h2⟩
      · rw [if_neg c] at e; cases e
    | _ => cases e
end
/-! ### what is walked: list, tuple, dict, text -/
def itemsG : D → Option (List D)
  | .lst xs => some xs
  | .tup xs => some xs
  | .dic ks _ => if ks.all isK = true then some ks else none
  | .str z => some (z.cps.toList.map fun c => .str ⟨#[c]⟩)
  | _ => none
def itemsGM (f : M D) : M (List D) := bindM f fun d => liftM (itemsG d)
theorem iter_keys {m : Md} {H : Hp} {a : Addr} {o : Obj} {kvs : List (Key × V)} (h : H a = some (.frz o (.dK kvs))) : IterOk m H (Itk a o kvs) (kvs.map fun p => keyD p.1) where
  stop := fun i H' s hi => ⟨s _ _ h trivial, by simpa using hi⟩
  go := fun i H' s hi => ⟨s _ _ h trivial, by simpa using hi⟩
  yld := fun i H1 v H2 s hi q => by
    obtain ⟨e, k, w, h1, h2⟩ := q
    subst h2
    refine ⟨e, keyD k, by rw [List.getElem?_map, h1]; rfl, ?_⟩
    cases k with
    | inl i => exact .int i
    | inr x => exact .str x
theorem iter_text {m : Md} {H : Hp} {z : Str} : IterOk m H (Its z) (z.cps.toList.map fun c => D.str ⟨#[c]⟩) where
  stop := fun i H' s hi => show z.cps.size ≤ i by simpa using hi
  go := fun i H' s hi => show i < z.cps.size by simpa using hi
  yld := fun i H1 v H2 s hi q => by
    obtain ⟨e, c, h1, h2⟩ := q
    subst h2
    refine ⟨e, .str ⟨#[c]⟩, ?_, .str _⟩
    rw [List.getElem?_map, Array.getElem?_toList, h1]; rfl
section
variable {X : Cx} {G : Gh} {W : WX}
theorem di_gen {tg l : Expr} {f : M D} (hK : G.m = ⟨X.K, X.mg, X.w⟩) (h : DE X G W l f) : DI X G W tg l (itemsGM f) := ⟨fun pins s σ H R I ⟨ρ, k, q⟩ => by
  have eK : G.m.K = X.K := by rw [hK]
  cases e : f ρ with
  | ok d ρ1 =>
    have same : ∀ (xs : List D), itemsG d = some xs → (∀ H1, Stable H H1 → StOk G σ H1 ρ1 → ∀ J, IterOk G.m H1 J xs → R J H1) := fun xs hx H1 s1 k1 J io => by
      have z : itemsGM f ρ = .ok xs ρ1 := by unfold itemsGM bindM; rw [e]; simp only [hx]; rfl
      rw [z] at q
      exact q H1 s1 k1 J io
    have dd : ∀ {Q' : VK}, (∀ v H1, Stable H H1 → StOk G σ H1 ρ1 → Rep G.m H1 v d → Q' v H1) → dT G W f σ H Q' := fun {Q'} hQ => ⟨ρ, k, by rw [e]; exact fun H1 s1 k1 v r => hQ v H1 s1 k1 r⟩
    cases d with
    | lst xs =>
      refine (di_any (tg := tg) hK h).run pins s σ H R I ⟨ρ, k, ?_⟩
      have z : itemsM f ρ = .ok xs ρ1 := by unfold itemsM bindM; rw [e]; rfl
      rw [z]; exact same xs rfl
    | tup xs =>
      refine (di_any (tg := tg) hK h).run pins s σ H R I ⟨ρ, k, ?_⟩
      have z : itemsM f ρ = .ok xs ρ1 := by unfold itemsM bindM; rw [e]; rfl
      rw [z]; exact same xs rfl
    | dic ks vs =>
      refine (pi_keys (tg := tg) h).run pins s σ H R I (dd fun v H1 s1 k1 r => ?_)
      by_cases c : ks.all isK = true
      rotate_left
      · have hn : itemsG (.dic ks vs) = none := by show (if ks.all isK = true then some ks else none) = none; rw [if_neg c]
        have z : itemsGM f ρ = .stuck := by unfold itemsGM bindM; rw [e]; simp only [hn]; rfl
        rw [z] at q; exact q.elim
      have rfl' : itemsG (.dic ks vs) = some ks := by show (if ks.all isK = true then some ks else none) = some ks; rw [if_pos c]
      cases r with
      | dicN q1 n e1 r1 r2 => exact (notK r1 n c).elim
      | dicK q1 rl => exact ⟨_, _, rfl, .inl ⟨_, q1, same _ rfl' H1 s1 k1 _ (iter_keys q1)⟩⟩
    | str z =>
      refine (pi_str (tg := tg) h).run pins s σ H R I (dd fun v H1 s1 k1 r => ?_)
      cases r
      exact ⟨z, rfl, same _ rfl H1 s1 k1 _ iter_text⟩
    | non => have z : itemsGM f ρ = .stuck := by unfold itemsGM bindM; rw [e]; rfl
             rw [z] at q; exact q.elim
    | bl b => have z : itemsGM f ρ = .stuck := by unfold itemsGM bindM; rw [e]; rfl
              rw [z] at q; exact q.elim
    | int i => have z : itemsGM f ρ = .stuck := by unfold itemsGM bindM; rw [e]; rfl
               rw [z] at q; exact q.elim
    | ins a b c => have z : itemsGM f ρ = .stuck := by unfold itemsGM bindM; rw [e]; rfl
                   rw [z] at q; exact q.elim
  | exc c ρ1 =>
    refine (di_any (tg := tg) hK h).run pins s σ H R I ⟨ρ, k, ?_⟩
    have z : itemsGM f ρ = .exc c ρ1 := by unfold itemsGM bindM; rw [e]
    have z2 : itemsM f ρ = .exc c ρ1 := by unfold itemsM bindM; rw [e]
    rw [z] at q; rw [z2]; exact q
  | stuck =>
    have z : itemsGM f ρ = .stuck := by unfold itemsGM bindM; rw [e]
    rw [z] at q; exact q.elim⟩
end
end DL
end
section
namespace DLS
open PySem PySem.Spec PyProof.Rows L2 DL
/-! ### keys as data -/
mutual
def keyN : D → Option NestedKey
  | .int i => some (.num i)
  | .str x => some (.text x)
  | .tup ds => (keyNs ds).map .tup
  | _ => none
def keyNs : List D → Option (List NestedKey)
  | [] => some []
  | d :: ds => (keyN d).bind fun k => (keyNs ds).map (k :: ·)
end
section
variable {m : Md} {H : Hp} {X : Cx} {pins : List (Addr × Obj)} {σ : L2.St} {s : Shared}
mutual
theorem keyN_pu : ∀ {d : D} {k : NestedKey}, keyN d = some k → intK k = true
  | .int i, k, h => by simp [keyN] at h; subst h; rfl
  | .tup ds, k, h => by
    simp only [keyN, Option.map_eq_some_iff] at h
    obtain ⟨ks, h1, rfl⟩ := h
    rw [intK]; exact keyNs_pu h1
  | .non, k, h => by simp [keyN] at h
  | .bl _, k, h => by simp [keyN] at h
  | .str x, k, h => by simp [keyN] at h; subst h; rfl
  | .lst _, k, h => by simp [keyN] at h
  | .dic _ _, k, h => by simp [keyN] at h
  | .ins _ _ _, k, h => by simp [keyN] at h
theorem keyNs_pu : ∀ {ds : List D} {ks : List NestedKey}, keyNs ds = some ks → intKs ks = true
  | [], ks, h => by simp [keyNs] at h; subst h; rfl
  | d :: ds, ks, h => by
    simp only [keyNs, Option.bind_eq_some_iff, Option.map_eq_some_iff] at h
    obtain ⟨k, h1, ks', h2, rfl⟩ := h
    rw [intKs, keyN_pu h1, keyNs_pu h2]; rfl
end
mutual
theorem key_is (I : Inv X pins σ H s) (hm : m.K = X.K) : ∀ {d : D} {v : V} {u : Value} {k : NestedKey}, Rep m H v d → keyN d = some k → L2.RelV v u → NestedIs s.heap k u
  | .int i, v, u, k, r, h, ru => by
    simp [keyN] at h; subst h
    cases r
    obtain ⟨t, rfl⟩ := ru
    exact .int _ _
  | .str x, v, u, k, r, h, ru => by
    simp [keyN] at h; subst h
    cases r
    obtain ⟨t, rfl⟩ := ru
    exact .text _ _
  | .tup ds, v, u, k, r, h, ru => by
    simp only [keyN, Option.map_eq_some_iff] at h
    obtain ⟨ks, h1, rfl⟩ := h
    cases r with
    | tup hq rl =>
      rw [hm] at hq
      obtain ⟨its, rv, ⟨o, ho, hc, n, hd⟩, _⟩ := I.tuple hq
      cases ru
      exact .tup ho hc hd (by simpa using keys_is I hm rl h1 rv)
  | .non, _, _, k, _, h, _ => by simp [keyN] at h
  | .bl _, _, _, k, _, h, _ => by simp [keyN] at h
  | .lst _, _, _, k, _, h, _ => by simp [keyN] at h
  | .dic _ _, _, _, k, _, h, _ => by simp [keyN] at h
  | .ins _ _ _, _, _, k, _, h, _ => by simp [keyN] at h
theorem keys_is (I : Inv X pins σ H s) (hm : m.K = X.K) : ∀ {ds : List D} {vs : List V} {us : List Value} {ks : List NestedKey}, RepL m H vs ds → keyNs ds = some ks → Vals vs us → NestedAll s.heap ks us
  | [], _, _, ks, r, h, ru => by
    simp [keyNs] at h; subst h
    cases r
    cases ru
    exact .nil
  | d :: ds, _, _, ks, r, h, ru => by
    simp only [keyNs, Option.bind_eq_some_iff, Option.map_eq_some_iff] at h
    obtain ⟨k, h1, ks', h2, rfl⟩ := h
    cases r with
    | cons a b =>
      cases ru with
      | cons c e => exact .cons (key_is I hm a h1 c) (keys_is I hm b h2 e)
end
end
/-- the data of a list without the later equal ones -/
def nubK (seen : List NestedKey) : List D → List D
  | [] => []
  | d :: ds => match keyN d with
    | some k => if seen.contains k then nubK seen ds else d :: nubK (k :: seen) ds
    | none => nubK seen ds
/-- tuples of whole numbers, nested no deeper than 8, fewer than 64 different ones -/
def isKey (d : D) : Bool := match d, keyN d with
  | .tup _, some k => decide (k.depth ≤ 8)
  | _, _ => false
def setOk (ds : List D) : Bool := ds.all isKey && decide ((nubK [] ds).length < 307)
instance : LawfulBEq NestedKey where
  eq_of_beq h := of_decide_eq_true h
  rfl := decide_eq_true rfl
/-- an entry that stands for data -/
def EntOk (m : Md) (H : Hp) (e : Ent) (d : D) : Prop := Rep m H (.ref e.1) d ∧ keyN d = some e.2 ∧ e.2.depth ≤ 8
section
variable {m : Md} {H : Hp} {X : Cx} {pins : List (Addr × Obj)} {σ : L2.St} {s : Shared}
theorem EntOk.el {e : Ent} {d : D} (h : EntOk m H e d) (I : Inv X pins σ H s) (hm : m.K = X.K) : El s.heap e.2 e.1 := ⟨key_is I hm h.1 h.2.1 rfl, h.2.2, keyN_pu h.2.1⟩
end
end DLS
end
section
namespace DLS
open PySem PySem.Spec PyProof.Rows L2 DL
section
variable {m : Md} {H : Hp} {X : Cx}
end
end DLS
end
section
namespace DL
open PySem PySem.Spec L2 DLS
open PyProof.Rows hiding St
/-! ### sorted(set(xs)) -/
def sortS : List D → Option (List D)
  | [.lst ds] => if (setOk ds && canSort ds) = true then some (srtD (nubK [] ds)) else none
  | _ => none
section
variable {X : Cx} {G : Gh} {W : WX} {a : Expr} {p p2 q0 pos : Pos}
end
/-! ### sorted(d) -/
def sortK : List D → Option (List D)
  | [.dic ks _] => (strsOf ks).bind fun zs => if zs.length < 64 then some (srtD ks) else none
  | _ => none
section
variable {m : Md}
end
end DL
end
section
namespace DL
open PySem PySem.Spec L2 DLS
open PyProof.Rows hiding St
/-! ### {k: v, ..} -/
inductive PairL (m : Md) (H : Hp) : List (V × V) → List (D × D) → Prop
  | nil : PairL m H [] []
  | cons {v : V × V} {vs : List (V × V)} {p : D × D} {ps : List (D × D)} : Rep m H v.1 p.1 → Rep m H v.2 p.2 → PairL m H vs ps → PairL m H (v :: vs) (p :: ps)
theorem PairL.st {m : Md} {H H' : Hp} (s : Stable H H') : ∀ {vs : List (V × V)} {ps : List (D × D)}, PairL m H vs ps → PairL m H' vs ps
  | _, _, .nil => .nil
  | _, _, .cons a b c => .cons (a.st s) (b.st s) (c.st s)
def pairsM : List (M D × M D) → M (List (D × D))
  | [] => pureM []
  | (fk, fv) :: r => bindM fk fun x => bindM fv fun y => bindM (pairsM r) fun ps => pureM ((x, y) :: ps)
/-- different keys, ints and texts -/
def difK : List D → Bool
  | [] => true
  | k :: ks => isK k && (ks.all fun j => !sameK k j) && difK ks
def dicM (fs : List (M D × M D)) : M D := bindM (pairsM fs) fun ps => if difK (ps.map (·.1)) = true ∧ ps.length ≤ 15 then pureM (.dic (ps.map (·.1)) (ps.map (·.2))) else stuckM
section
variable {X : Cx} {G : Gh} {W : WX}
inductive DPs (X : Cx) (G : Gh) (W : WX) : List (Option Expr) → List Expr → List (M D × M D) → Prop
  | nil : DPs X G W [] [] []
  | cons {k v : Expr} {ks : List (Option Expr)} {vs : List Expr} {fk fv : M D} {fs : List (M D × M D)} : (∀ h, DE X (G.at h) W k fk) → (∀ h, DE X (G.at h) W v fv) → DPs X G W ks vs fs → DPs X G W (some k :: ks) (v :: vs) ((fk, fv) :: fs)
theorem keys_of : ∀ {m : Md} {H : Hp} {vs : List (V × V)} {ps : List (D × D)}, PairL m H vs ps → (ps.all fun p => isK p.1) = true → ∃ kvs : List (Key × V), vs = kvs.map (fun kv => (kV kv.1, kv.2)) ∧ ps.map (·.1) = kvs.map (fun kv => keyD kv.1) ∧ RepL m H (kvs.map (·.2)) (ps.map (·.2)) ∧ kvs.length = ps.length
  | _, _, _, _, .nil, _ => ⟨[], rfl, rfl, .nil, rfl⟩
  | _, _, _, _, .cons (v := v) (p := p) a b c, h => by
    rw [List.all_cons, Bool.and_eq_true] at h
    obtain ⟨kvs, e1, e2, e3, e4⟩ := keys_of c h.2
    obtain ⟨k, h1, h2⟩ := key_rep a h.1
    refine ⟨(k, v.2) :: kvs, ?_, ?_, .cons b e3, by simp [e4]⟩
    · rw [e1, List.map_cons, ← h1]
    · rw [List.map_cons, List.map_cons, h2, e2]
end
end DL
end
section
namespace DL
open PySem PySem.Spec L2 DLS
open PyProof.Rows hiding St
/-! ### the making of an instance: the body of __init__ -/
mutual
def noIns : D → Bool
  | .ins _ _ _ => false
  | .lst xs => noInsL xs
  | .tup xs => noInsL xs
  | .dic _ vs => noInsL vs
  | _ => true
def noInsL : List D → Bool
  | [] => true
  | d :: ds => noIns d && noInsL ds
end
mutual
theorem nk_noIns : ∀ k : NestedKey, noIns (nkD k) = true
  | .none => rfl
  | .num _ => rfl
  | .text _ => rfl
  | .tup ks => by rw [nkD, noIns]; exact nks_noIns ks
theorem nks_noIns : ∀ ks : List NestedKey, noInsL (nkDs ks) = true
  | [] => rfl
  | k :: ks => by rw [nkDs, noInsL, nk_noIns k, nks_noIns ks]; rfl
end
theorem nkD_noIns : ∀ kvs : List NEnt, noInsL (kvs.map fun p => nkD p.1) = true
  | [] => rfl
  | p :: l => by rw [List.map_cons, noInsL, nk_noIns, nkD_noIns l]; rfl
/-- all but x is kept -/
def GX (x : Addr) (H H' : Hp) : Prop := ∀ a o, a ≠ x → H a = some o → H' a = some o
theorem GX.rfl {x : Addr} {H : Hp} : GX x H H := fun _ _ _ h => h
theorem GX.trans {x : Addr} {H1 H2 H3 : Hp} (a : GX x H1 H2) (b : GX x H2 H3) : GX x H1 H3 := fun y o n h => b y o n (a y o n h)
section
variable {m : Md} {H H' : Hp} {x : Addr}
mutual
theorem Rep.gx (g : GX x H H') (hx : ∃ C dx fs, H x = some (.ins C dx fs)) : ∀ {d : D} {v : V}, noIns d = true → Rep m H v d → Rep m H' v d
  | .non, _, _, h => by cases h; exact .non
  | .bl b, _, _, h => by cases h; exact .bl b
  | .int i, _, _, h => by cases h; exact .int i
  | .str x, _, _, h => by cases h; exact .str x
  | .lst ds, _, n, h => by
    cases h with
    | lst q r =>
      refine .lst ?_ (RepL.gx g hx (by rw [noIns] at n; exact n) r)
      rcases q with ⟨o, e⟩ | q
      · exact .inl ⟨o, g _ _ (fun z => by obtain ⟨C, dx, fs, e2⟩ := hx; rw [z, e2] at e; cases e) e⟩
      · exact .inr q
  | .tup ds, _, n, h => by
    cases h with
    | tup q r =>
      refine .tup ?_ (RepL.gx g hx (by rw [noIns] at n; exact n) r)
      obtain ⟨C, dx, fs, e2⟩ := hx
      rcases q with (e | ⟨o, e⟩) | q
      · exact .inl (.inl (g _ _ (fun z => by rw [z, e2] at e; cases e) e))
      · exact .inl (.inr ⟨o, g _ _ (fun z => by rw [z, e2] at e; cases e) e⟩)
      · exact .inr q
  | .dic ks ds, _, n, h => by
    cases h with
    | dicN q nn e r1 r2 => exact .dicN (g _ _ (fun z => by obtain ⟨C, dx, fs, e2⟩ := hx; rw [z, e2] at q; cases q) q) nn e (RepL.gx g hx (by rw [e]; exact nkD_noIns _) r1) (RepL.gx g hx (by rw [noIns] at n; exact n) r2)
    | dicK q r => exact .dicK (g _ _ (fun z => by obtain ⟨C, dx, fs, e2⟩ := hx; rw [z, e2] at q; cases q) q) (RepL.gx g hx (by rw [noIns] at n; exact n) r)
  | .ins _ _ _, _, n, _ => by simp [noIns] at n
theorem RepL.gx (g : GX x H H') (hx : ∃ C dx fs, H x = some (.ins C dx fs)) : ∀ {ds : List D} {vs : List V}, noInsL ds = true → RepL m H vs ds → RepL m H' vs ds
  | [], _, _, h => by cases h; exact .nil
  | d :: ds, _, n, h => by
    rw [noInsL, Bool.and_eq_true] at n
    cases h with
    | cons a b => exact .cons (Rep.gx g hx n.1 a) (RepL.gx g hx n.2 b)
end
end
/-- the slots of __init__: the instance in slot 0, data without instances in the others -/
structure IOk (m : Md) (x C dx : Addr) (c : Str) (ns : List Str) (ds : List D) (σ : L2.St) (H : Hp) (ρ : DL.Env) : Prop where
  len : σ.length = ρ.length
  dat : ∀ (i : Nat) (d : D), 0 < i → ρ[i]? = some (.d d) → noIns d = true ∧ ∃ v, σ[i]? = some (some v) ∧ Rep m H v d
  pla : ∀ (i : Nat) (s : Sl), ρ[i]? = some s → plain s = true
  me : σ[0]? = some (some (.ref x))
  s0 : ρ[0]? = some (.d (.ins c ns ds))
  mg : m.mg c = some (.ref C)
  nof : noInsL ds = true
  ob : ∃ vs, H x = some (.ins C dx (ns.zip vs)) ∧ ns.length = vs.length ∧ RepL m H vs ds
section
variable {m : Md} {x C dx : Addr} {c : Str} {ns : List Str} {ds : List D} {σ : L2.St} {H H' : Hp} {ρ ρ' : DL.Env}
abbrev gi (m : Md) (H : Hp) : Gh := ⟨m, H, [], none⟩
theorem IOk.st (k : IOk m x C dx c ns ds σ H ρ) : StOk (gi m H) σ H ρ where
  len := k.len
  dat := fun i d h => by
    cases i with
    | zero =>
      rw [k.s0] at h; cases h
      obtain ⟨vs, h1, h2, h3⟩ := k.ob
      exact ⟨_, k.me, .ins k.mg h1 h2 h3⟩
    | succ i => exact (k.dat _ d (Nat.succ_pos i) h).2
  own := fun i xs h => by have := k.pla i _ h; simp [plain] at this
  sep := fun i j xs ys a _ h => by have := k.pla i _ h; simp [plain] at this
  prot := fun p hp => absurd hp List.not_mem_nil
  keep := fun a o h _ => h
  exn := fun i c h => by have := k.pla i _ h; simp [plain] at this
theorem IOk.keeps (k' : StOk (gi m H) σ H' ρ') : Grow H H' := fun a o e => k'.keep a o e fun p hp => absurd hp List.not_mem_nil
end
/-- slot 0 holds the instance, the others hold plain data without instances -/
def iniC (ρ : DL.Env) : Bool := ρ.all plain && ((ρ.drop 1).all fun s => match s with
  | .d d => noIns d
  | _ => true) && match (ρ[0]? : Option Sl) with
  | some (.d (.ins _ _ ds)) => noInsL ds
  | _ => false
theorem iniC_get {ρ : DL.Env} (h : iniC ρ = true) : (∀ (i : Nat) (s : Sl), ρ[i]? = some s → plain s = true) ∧ (∀ (i : Nat) (d : D), 0 < i → ρ[i]? = some (.d d) → noIns d = true) ∧ ∃ c ns ds, ρ[0]? = some (.d (.ins c ns ds)) ∧ noInsL ds = true := by
  unfold iniC at h
  rw [Bool.and_eq_true, Bool.and_eq_true] at h
  obtain ⟨⟨h1, h2⟩, h3⟩ := h
  refine ⟨fun i s e => List.all_eq_true.mp h1 s (List.mem_of_getElem? e), fun i d hi e => ?_, ?_⟩
  · obtain ⟨i, rfl⟩ : ∃ j, i = j + 1 := ⟨i - 1, by omega⟩
    have q : (ρ.drop 1)[i]? = some (.d d) := by rw [List.getElem?_drop, Nat.add_comm]; exact e
    exact List.all_eq_true.mp h2 _ (List.mem_of_getElem? q)
  · cases e : ρ[0]? with
    | none => rw [e] at h3; cases h3
    | some s =>
      rw [e] at h3
      cases s with
      | d d => cases d with
        | ins c ns ds => exact ⟨c, ns, ds, rfl, h3⟩
        | _ => cases h3
      | _ => cases h3
section
variable {m : Md} {x C dx : Addr} {c : Str} {ns : List Str} {ds : List D} {σ : L2.St} {H H' : Hp} {ρ ρ' : DL.Env} {W : WX}
/-- behind an expression: the same slots, a larger heap -/
theorem IOk.grow (k : IOk m x C dx c ns ds σ H ρ) (k' : StOk (gi m H) σ H' ρ') (h : iniC ρ' = true) : ∃ c' ns' ds', IOk m x C dx c' ns' ds' σ H' ρ' := by
  obtain ⟨h1, h2, c', ns', ds', h3, h4⟩ := iniC_get h
  obtain ⟨vs, g1, _, _⟩ := k.ob
  have kp := IOk.keeps k'
  obtain ⟨v, e1, e2⟩ := k'.dat 0 _ h3
  rw [k.me] at e1; cases e1
  cases e2 with
  | ins a1 a2 a3 a4 =>
    have z := (kp _ _ g1).symm.trans a2
    injection z with z
    injection z with z1 z2 z3
    subst z1 z2
    exact ⟨c', ns', ds', k'.len, fun i d hi e => ⟨h2 i d hi e, k'.dat i d e⟩, h1, k.me, h3, a1, h4, ⟨_, a2, a3, a4⟩⟩
/-- what becomes of the state -/
def iPost (m : Md) (W : WX) (x C dx : Addr) (H : Hp) (r : Res Flow) (E : Ends) : Prop := match r with
  | .ok .nx ρ => ∀ c ns ds σ' H', GX x H H' → IOk m x C dx c ns ds σ' H' ρ → E.nx σ' H'
  | .exc e _ => ∀ σ' C' H', m.mg e = some (.ref C') → GX x H H' → W (.ref C') none σ' H'
  | _ => False
theorem iPost.from {r : Res Flow} {E : Ends} (g : GX x H H') (h : iPost m W x C dx H r E) : iPost m W x C dx H' r E := by
  cases r with
  | ok f ρ => cases f with
    | nx => exact fun c ns ds σ2 H2 g2 k => h c ns ds σ2 H2 (g.trans g2) k
    | _ => exact h.elim
  | exc e ρ => exact fun σ2 C2 H2 e2 g2 => h σ2 C2 H2 e2 (g.trans g2)
  | stuck => exact h.elim
end
/-- an expression at the slots of __init__: what it gives, then k -/
def atM {α : Type} (f : M α) (k : α → MS) : MS := fun ρ => match f ρ with
  | .ok a ρ' => if iniC ρ' = true then k a ρ' else .stuck
  | .exc c ρ' => .exc c ρ'
  | .stuck => .stuck
section
variable {X : Cx} {m : Md} {W : WX} {x C dx : Addr} {c : Str} {ns : List Str} {ds : List D} {σ : L2.St} {H : Hp} {ρ : DL.Env} {E : Ends} {α : Type}
/-- if test: raise X(..) -/
def ifRaise (f : M Bool) (e : Str) : MS := atM f fun b => if b = true then raiseM e else skipM
end
end DL
end
section
namespace DL
open PySem PySem.Spec L2 DLS
open PyProof.Rows hiding St
def setFM (c f : Str) (fe : M D) : MS := atM fe fun d ρ => match (ρ[0]? : Option Sl) with
  | some (.d (.ins c' ns ds)) => if c' = c ∧ f ∉ ns ∧ noIns d = true ∧ ns.length < 1000 then .ok .nx (ρ.set 0 (.d (.ins c' (ns ++ [f]) (ds ++ [d])))) else .stuck
  | _ => .stuck
section
variable {X : Cx} {m : Md} {W : WX} {x C dx : Addr} {c : Str} {ns : List Str} {ds : List D} {σ : L2.St} {H : Hp} {ρ : DL.Env} {E : Ends}
/-- for t in e: if test: raise X(..) -/
def forIfGo (i : Nat) (f : M Bool) (e : Str) : List D → MS
  | [] => skipM
  | d :: ds => fun ρ => if noIns d = true then (match ifRaise f e (ρ.set i (.d d)) with
    | .ok .nx ρ' => forIfGo i f e ds ρ'
    | r => r) else .stuck
def forIfM (i : Nat) (fi : M (List D)) (f : M Bool) (e : Str) : MS := atM fi fun ds => forIfGo i f e ds
theorem IOk.slot (k : IOk m x C dx c ns ds σ H ρ) {i : Nat} {v : V} {d : D} (hi : 0 < i) (hn : noIns d = true) (r : Rep m H v d) : IOk m x C dx c ns ds (σ.set i (some v)) H (ρ.set i (.d d)) := by
  refine ⟨by simp [k.len], fun j e hj he => ?_, fun j s e => ?_, by rw [List.getElem?_set_ne (by omega)]; exact k.me, by rw [List.getElem?_set_ne (by omega)]; exact k.s0, k.mg, k.nof, k.ob⟩
  · by_cases z : i = j
    · subst z
      have hl : i < ρ.length := by
        have := (List.getElem?_eq_some_iff.mp he).1
        simpa using this
      rw [List.getElem?_set_self hl] at he; cases he
      exact ⟨hn, v, by rw [List.getElem?_set_self (by rw [k.len]; exact hl)], r⟩
    · rw [List.getElem?_set_ne z] at he
      obtain ⟨n1, w, e1, e2⟩ := k.dat j e hj he
      exact ⟨n1, w, by rw [List.getElem?_set_ne z]; exact e1, e2⟩
  · by_cases z : i = j
    · subst z
      have hl : i < ρ.length := by
        have := (List.getElem?_eq_some_iff.mp e).1
        simpa using this
      rw [List.getElem?_set_self hl] at e; cases e; rfl
    · rw [List.getElem?_set_ne z] at e; exact k.pla j s e
end
end DL
end
section
namespace DL
open PySem PySem.Spec L2 DLS
open PyProof.Rows hiding St
section
variable {X : Cx} {m : Md} {W : WX} {x C dx : Addr} {c : Str} {ns : List Str} {ds : List D} {σ : L2.St} {H : Hp} {ρ : DL.Env} {E : Ends}
end
end DL
end
section
namespace DL
open PySem PySem.Spec L2 DLS
open PyProof.Rows hiding St
/-! ### the dict of an instance that __init__ fills -/
/-- slot 0 is closed, the others hold data -/
def kC (ρ : DL.Env) : Bool := ρ.all plain && match (ρ[0]? : Option Sl) with
  | some (.d _) => false
  | _ => true
theorem kC_pl {ρ : DL.Env} (h : kC ρ = true) (i : Nat) (s : Sl) (e : ρ[i]? = some s) : plain s = true := by
  unfold kC at h
  rw [Bool.and_eq_true] at h
  exact List.all_eq_true.mp h.1 s (List.mem_of_getElem? e)
section
variable {m : Md} {G : Gh} {x p C dx : Addr} {c f : Str} {ns : List Str} {ds : List D} {acc : List (D × D)} {σ σ' : L2.St} {H0 H H' : Hp} {ρ ρ' : DL.Env} {W : WX}
theorem rebase (k : StOk G σ H ρ) (h : ∀ (i : Nat) (s : Sl), ρ[i]? = some s → plain s = true) (st : Stable H H') : StOk (gi G.m H') σ H' ρ where
  len := k.len
  dat := fun i d e => by
    obtain ⟨v, e1, e2⟩ := k.dat i d e
    exact ⟨v, e1, e2.st st⟩
  own := fun i xs e => by have := h i _ e; simp [plain] at this
  sep := fun i j xs ys a _ e => by have := h i _ e; simp [plain] at this
  prot := fun p hp => absurd hp List.not_mem_nil
  keep := fun a o e _ => e
  exn := fun i c e => by have := h i _ e; simp [plain] at this
structure KOk (m : Md) (x p C dx : Addr) (c f : Str) (ns : List Str) (ds : List D) (H0 : Hp) (σ : L2.St) (H : Hp) (ρ : DL.Env) (acc : List (D × D)) : Prop where
  st : StOk (gi m H) σ H ρ
  pl : kC ρ = true
  me : σ[0]? = some (some (.ref x))
  mg : m.mg c = some (.ref C)
  ob : ∃ vs, H x = some (.ins C dx ((ns ++ [f]).zip (vs ++ [.ref p]))) ∧ ns.length = vs.length ∧ RepL m H vs ds
  di : ∃ kvs, H p = some (.dK kvs) ∧ acc.map (·.1) = kvs.map (fun kv => keyD kv.1) ∧ RepL m H (kvs.map (·.2)) (acc.map (·.2))
  gx : GX x H0 H
  hp : H0 p = none
theorem KOk.next (k : KOk m x p C dx c f ns ds H0 σ H ρ acc) (k' : StOk (gi m H) σ' H' ρ') (h : kC ρ' = true) (h0 : σ'[0]? = σ[0]?) : KOk m x p C dx c f ns ds H0 σ' H' ρ' acc := by
  have kp := IOk.keeps k'
  obtain ⟨vs, a1, a2, a3⟩ := k.ob
  obtain ⟨kvs, b1, b2, b3⟩ := k.di
  exact ⟨rebase k' (kC_pl h) Stable.rfl, h, by rw [h0]; exact k.me, k.mg, ⟨vs, kp _ _ a1, a2, a3.st kp.stable⟩, ⟨kvs, kp _ _ b1, b2, b3.st kp.stable⟩, k.gx.trans fun a o _ e => kp a o e, k.hp⟩
end
/-- keys of a list of pairs -/
def dicOf (acc : List (D × D)) : D := .dic (acc.map (·.1)) (acc.map (·.2))
def kinEnd (c f : Str) (ns : List Str) (ds : List D) : Res (List (D × D)) → Res Flow
  | .ok acc ρ => if iniC (ρ.set 0 (.d (.ins c (ns ++ [f]) (ds ++ [dicOf acc])))) = true ∧ ρ ≠ [] then .ok .nx (ρ.set 0 (.d (.ins c (ns ++ [f]) (ds ++ [dicOf acc])))) else .stuck
  | .exc e ρ => .exc e ρ
  | .stuck => .stuck
section
variable {m : Md} {G : Gh} {x p C dx : Addr} {c f : Str} {ns : List Str} {ds : List D} {acc : List (D × D)} {σ σ' : L2.St} {H0 H H' : Hp} {ρ ρ' : DL.Env} {W : WX} {E : Ends} {α β : Type}
/-- behind the loop -/
theorem KOk.done (k : KOk m x p C dx c f ns ds H0 σ H ρ acc) (hf : f ∉ ns) (q : iPost m W x C dx H0 (kinEnd c f ns ds (.ok acc ρ)) E) : ∃ a u, H a = some u ∧ Mut (some u) ∧ ∀ o, E.nx σ (upd H a (.frz o u)) := by
  obtain ⟨vs, a1, a2, a3⟩ := k.ob
  obtain ⟨kvs, b1, b2, b3⟩ := k.di
  refine ⟨p, _, b1, trivial, fun o => ?_⟩
  unfold kinEnd at q
  dsimp only at q
  by_cases cc : iniC (ρ.set 0 (.d (.ins c (ns ++ [f]) (ds ++ [dicOf acc])))) = true ∧ ρ ≠ []
  · rw [if_pos cc] at q
    obtain ⟨cc, ne⟩ := cc
    have h0 : 0 < ρ.length := List.length_pos_iff.mpr ne
    obtain ⟨i1, i2, c3, ns3, ds3, i3, i4⟩ := iniC_get cc
    rw [List.getElem?_set_self h0] at i3; cases i3
    have st : Stable H (upd H p (.frz o (.dK kvs))) := Stable.upd b1 id
    have nx : x ≠ p := fun z => by rw [z, b1] at a1; cases a1
    refine q _ _ _ σ _ ?_ ⟨?_, ?_, i1, k.me, by rw [List.getElem?_set_self h0], k.mg, i4, ⟨vs ++ [.ref p], by rw [upd_ne nx]; exact a1, by simp [a2], ?_⟩⟩
    · intro a o2 na e
      have np : a ≠ p := fun z => by rw [z, k.hp] at e; cases e
      rw [upd_ne np]; exact k.gx a o2 na e
    · rw [List.length_set]; exact k.st.len
    · intro i d hi e
      refine ⟨i2 i d hi e, ?_⟩
      rw [List.getElem?_set_ne (by omega)] at e
      obtain ⟨v, e1, e2⟩ := k.st.dat i d e
      exact ⟨v, e1, e2.st st⟩
    · refine (a3.st st).append (.cons ?_ .nil)
      unfold dicOf
      rw [b2]
      exact .dicK upd_same (b3.st st)
  · rw [if_neg cc] at q; exact q.elim
end
end DL
end
section
namespace DL
open PySem PySem.Spec L2 DLS
open PyProof.Rows hiding St
section
variable {X : Cx} {m : Md} {W : WX}
end
end DL
end
section
namespace DL
open PySem PySem.Spec L2 DLS
open PyProof.Rows hiding St
/-! ### what __init__ promises -/
def iniP (m : Md) (x : Addr) (H : Hp) (r : Res D) (Q : VK) (E : XK) : Prop := match r with
  | .ok d _ => ∀ H', GX x H H' → Rep m H' (.ref x) d → Q .non H'
  | .exc e _ => ∀ C' H', m.mg e = some (.ref C') → GX x H H' → E (.ref C') none H'
  | .stuck => False
def spI (m : Md) (c : Str) (k : Nat) (fI : List D → Res D) : Sp := fun vs H Q E => ∃ x C dx ws as, vs = .ref x :: ws ∧ as.length = k ∧ m.mg c = some (.ref C) ∧ H x = some (.ins C dx []) ∧ RepL m H ws as ∧ noInsL as = true ∧ iniP m x H (fI as) Q E
theorem RepL.at_ {m : Md} {H : Hp} : ∀ {vs : List V} {ds : List D}, RepL m H vs ds → noInsL ds = true → ∀ (i : Nat) (d : D), ds[i]? = some d → noIns d = true ∧ ∃ v, vs[i]? = some v ∧ Rep m H v d
  | _, _, .nil, _, i, d, e => by simp at e
  | _, _, .cons a b, n, 0, d, e => by
    rw [noInsL, Bool.and_eq_true] at n
    simp at e; subst e
    exact ⟨n.1, _, rfl, a⟩
  | _, _, .cons a b, n, i + 1, d, e => by
    rw [noInsL, Bool.and_eq_true] at n
    exact RepL.at_ b n.2 i d (by simpa using e)
end DL
end
section
namespace DL
open PySem PySem.Spec L2 DLS
open PyProof.Rows hiding St
section
variable {X : Cx} {CX : CXT} {k i : Nat} {f C : Addr} {fd : FuncData} {ps : List Str} {sp : Sp} {E : L2.St → XK} {x m : Str} {p pos apos : Pos} {e o : Expr} {es : List Expr} {ta : TE} {t : TA}
end
/-- a class of the text that is made -/
structure DMk (P : Program) (w : World) (K : PySem.W.Frag) (mg : Str → Option Value) (base : Heap) (c : Str) (k n : Nat) (fI : List D → Res D) : Prop where
  ex : ∃ C fA fd ps, mg c = some (.ref C) ∧ Mk K C fA ∧ Binds K fd ps [] ∧ FnOk P w K mg base (L2.CX P w) k fA fd ps (spI ⟨K, mg, w⟩ c n fI)
def makeM (n : Nat) (fI : List D → Res D) (fa : M (List D)) : M D := bindM fa fun as ρ => if as.length = n ∧ noInsL as = true then (match fI as with
  | .ok d _ => .ok d ρ
  | .exc e _ => .exc e ρ
  | .stuck => .stuck) else .stuck
end DL
end
section
namespace DL
open PySem PySem.Spec L2 DLS
open PyProof.Rows hiding St
/-! ### classes of the text, from the head's facts -/
section
variable {fa : List He.Fa} {fn : List He.DefD} {K : PySem.W.Frag} {h : Heap} {mg : Str → Option Value}
end
section
variable {P : Program} {w : World} {K : PySem.W.Frag} {mg : Str → Option Value} {base : Heap} {c nm q : Str} {st : Stmt} {fA : Addr} {fd : FuncData} {k n : Nat} {N ps : List Str} {md : List Bool} {rm : RM} {bm : MS}
end
end DL
end
section
namespace DL
open PySem PySem.Spec L2
theorem room_hv {k : Nat} {A : Around} (r : Room k A) : A.units + 130 < cLine := by have := r.un; omega
/-- sorted of a list, of a dict with text keys -/
def sortG (ds : List D) : Option (List D) := (sortL ds).or (sortK ds)
end DL
end
section
namespace DL
open PySem PySem.Spec L2 DLS
open PyProof.Rows hiding St
/-! ### containers of a def's own: lists and dicts -/
def ocL (f : M (List D)) : M OC := bindM f fun xs => pureM (.l xs)
def ocM (f : M OC) : M D := bindM f fun c => pureM (ocD c)
def setCM (i : Nat) (f : M OC) : MS := bindM f fun c ρ => .ok .nx (ρ.set i (.cell c))
def consC (f : M OC) (g : M (List Ag)) : M (List Ag) := bindM f fun c => bindM g fun r => pureM (.tmp c :: r)
def putC (i : Nat) (c : OC) : M Unit := fun ρ => .ok () (ρ.set i (.cell c))
def getC (i : Nat) : M OC := fun ρ => match ρ[i]? with
  | some (.cell c) => .ok c ρ
  | _ => .stuck
section
variable {X : Cx} {G : Gh} {W : WX} {e a b : Expr} {es : List Expr} {pos : Pos} {rm : RM}
end

/-! ### own dicts with flat keys -/
def putF (x d : D) (ks vs : List D) : List D × List D :=
  if (ks.any fun k => sameK k x) = true then (ks, (ks.zip vs).map fun p => if sameK p.1 x = true then d else p.2) else (ks ++ [x], vs ++ [d])
/-- d[k] = v, d an own dict with flat keys -/
def setKD (c : OC) (k d : D) : Option OC := match c with
  | .k ks vs => if (isK k && ks.all isK) = true ∧ ks.length < sizeLine then some (.k (putF k d ks vs).1 (putF k d ks vs).2) else none
  | _ => none
/-- a store into a container: SetC -/
def SetC (m : Md) (r : TSet) (g : OC → D → D → Option OC) : Prop := ∀ (a : Addr) (o : HO) (y v : V) (c c' : OC) (dy d : D) (H : Hp) (Q : Hp → Prop), H a = some o → RepO m H a o c → Rep m H y dy → Rep m H v d → g c dy d = some c' →
  (∀ o', RepO m H a o' c' → Q (upd H a o')) → r (.ref a) y v H Q
section
variable {X : Cx} {G : Gh} {W : WX} {e a b : Expr} {es : List Expr} {pos : Pos} {rm : RM}
def setGM (g : OC → D → D → Option OC) (i : Nat) (fk fe : M D) : MS := bindM fe fun d => bindM (getC i) fun _ => bindM fk fun z => bindM (getC i) fun c => bindM (liftM (g c z d)) fun c' => bindM (putC i c') fun _ => skipM
/-- {k: v, ..} as a dict of the def's own -/
def dicC (fs : List (M D × M D)) : M OC := bindM (pairsM fs) fun ps => if difK (ps.map (·.1)) = true ∧ ps.length ≤ 15 then pureM (.k (ps.map (·.1)) (ps.map (·.2))) else stuckM
end
end DL
end
section
namespace DL
open PySem PySem.Spec L2 DLS
open PyProof.Rows hiding St
/-! ### slices -/
def cutL {α : Type} (xs : List α) (lo hi : Option Int) : List α := (xs.drop (HT.sIx xs.length 0 lo)).take (HT.sIx xs.length xs.length hi - HT.sIx xs.length 0 lo)
def slD (lo hi : Option Int) : D → Option D
  | .lst xs => some (.lst (cutL xs lo hi))
  | .tup xs => some (.tup (cutL xs lo hi))
  | .str z => if z.length ≤ sizeLine then some (.str ⟨(cutL z.cps.toList lo hi).toArray⟩) else none
  | _ => none
def rSlU (K : PySem.W.Frag) : V → Option Int → Option Int → Hp → VK → Prop := fun x lo hi H Q => rSlL K x lo hi H Q ∨ (rSlA K x lo hi H Q ∨ rSlS x lo hi H Q)
theorem sl_U {X : Cx} : SlR X (rSlU X.K) := sl_list.or (sl_tupA.or sl_str)
def partM (f : M D) : M (Option Int) := bindM f fun d => match d with
  | .int i => pureM (some i)
  | _ => stuckM
section
variable {X : Cx} {G : Gh} {W : WX} {e : Expr} {lo hi : Option Expr} {pos p2 : Pos}
def pT (G : Gh) (W : WX) (f : M (Option Int)) : TO := fun σ H Q => ∃ ρ, StOk G σ H ρ ∧ postG G W σ H (f ρ) fun o _ H' => Q o H'
def DP (X : Cx) (G : Gh) (W : WX) (e : Option Expr) (f : M (Option Int)) : Prop := PO X e (pT G W f)
theorem po_imp {e : Option Expr} {t t' : TO} (h : PO X e t) (k : ∀ σ H Q, t' σ H Q → t σ H Q) : PO X e t' := ⟨fun pins s σ H Q I q => h.run pins s σ H Q I (k σ H Q q)⟩
theorem dp_none : DP X G W none (pureM none) := po_imp po_none fun σ H Q ⟨ρ, k, q⟩ => q H Stable.rfl k
theorem dp_some {f : M D} (h : DE X G W e f) : DP X G W (some e) (partM f) := po_imp (po_some h) fun σ H Q ⟨ρ, k, q⟩ => ⟨ρ, k, q.bind.mono fun d ρ1 H1 _ s1 k1 q1 v r => by
  cases r with
  | int i => exact ⟨i, rfl, q1 H1 Stable.rfl k1⟩
  | _ => exact q1.elim⟩
def slM (fe : M D) (fl fh : M (Option Int)) : M D := bindM fe fun x => bindM fl fun l => bindM fh fun h => liftM (slD l h x)
theorem repL_cut {m : Md} {H : Hp} {vs : List V} {ds : List D} (r : RepL m H vs ds) (l h : Option Int) : RepL m H (cutV vs l h) (cutL ds l h) := by
  unfold cutV cutL
  rw [r.len]
  exact (r.drop _).take _
theorem de_slice {fe : M D} {fl fh : M (Option Int)} (hm0 : G.m = ⟨X.K, X.mg, X.w⟩) (he : DE X G W e fe) (hl : DP X G W lo fl) (hh : DP X G W hi fh) : DE X G W (.Subscript e (.Slice lo hi none p2) pos) (slM fe fl fh) :=
  pe_imp (pe_fz (pe_slice sl_U he hl hh)) fun σ H Q ⟨ρ, k, q⟩ => ⟨ρ, k, q.bind.mono fun x ρ1 H1 _ s1 k1 q1 v r => ⟨ρ1, k1, q1.bind.mono fun l ρ2 H2 _ s2 k2 q2 => ⟨ρ2, k2, q2.bind.mono fun h ρ3 H3 _ s3 k3 q3 => by
    have r := (r.st s2).st s3
    obtain ⟨d, e, q4⟩ := q3.lift k3
    have eK : X.K = G.m.K := by rw [hm0]
    cases r with
    | @lst a vs xs qa ra =>
      cases e
      refine .inl ⟨a, vs, rfl, by rw [eK]; exact qa.sq, fun p hp => .inr ⟨p, _, rfl, upd_same, trivial, fun o => ?_⟩⟩
      have eu : upd (upd H3 p (.lst (cutV vs l h))) p (.frz o (.lst (cutV vs l h))) = upd H3 p (.frz o (.lst (cutV vs l h))) := upd_upd
      rw [eu]
      have g := Grow.new (o := .frz o (.lst (cutV vs l h))) hp
      exact q4 _ g.stable (k3.grow g) _ (.lst (.inl ⟨o, upd_same⟩) ((repL_cut ra l h).st g.stable))
    | @tup a vs xs qa ra =>
      cases e
      refine .inr (.inl ⟨a, vs, rfl, by rw [eK]; exact qa, fun c => .inl ?_, fun c p hp => .inl ?_⟩)
      · rw [ra.len] at c
        have eq : cutL xs l h = xs := by
          unfold cutL
          rw [c.1, c.2]
          simp
        exact q4 _ Stable.rfl k3 _ (by rw [eq]; exact .tup qa ra)
      · have g := Grow.new (o := .tup (cutV vs l h)) hp
        exact q4 _ g.stable (k3.grow g) _ (.tup (SqT.of upd_same) ((repL_cut ra l h).st g.stable))
    | str z =>
      have e : (if z.length ≤ sizeLine then some (D.str ⟨(cutL z.cps.toList l h).toArray⟩) else none) = some d := e
      by_cases c : z.length ≤ sizeLine
      · rw [if_pos c] at e; cases e
        refine .inr (.inr ⟨z, rfl, c, .inl ?_⟩)
        have ez : cutS z l h = ⟨(cutL z.cps.toList l h).toArray⟩ := by
          unfold cutS cutL
          have : z.length = z.cps.toList.length := by simp [Str.length]
          rw [this]
        rw [ez]
        exact q4 H3 Stable.rfl k3 _ (.str _)
      · rw [if_neg c] at e; cases e
    | _ => cases e⟩⟩⟩
/-- xs[::-1], a list -/
def revM (f : M D) : M D := bindM f fun d => match d with
  | .lst xs => pureM (.lst xs.reverse)
  | _ => stuckM
/-! ### a + b as a list of the def's own -/
def catD : D → D → Option (List D)
  | .lst xs, .lst ys => if xs.length + ys.length ≤ sizeLine then some (xs ++ ys) else none
  | _, _ => none
def catM (fa fb : M D) : M (List D) := bindM fa fun x => bindM fb fun y => liftM (catD x y)
end
end DL
end
section
namespace DL
open PySem PySem.Spec L2 DLS
open PyProof.Rows hiding St
/-! ### values that may be containers of the def's own -/
def setXM (i : Nat) (f : M D) : MS := bindM f fun d ρ => match conOf d with
  | some c => .ok .nx (ρ.set i (.cell c))
  | none => .ok .nx (ρ.set i (.d d))
def giveX (i : Nat) : M D := bindM (getC i) fun c ρ => .ok (ocD c) (ρ.set i .no)
section
variable {X : Cx} {G : Gh} {W : WX} {e a b : Expr} {es : List Expr} {pos p : Pos} {rm : RM} {x : Str} {j k : Nat} {md : List Bool} {f : Fn} {fa : M (List Ag)}
end
end DL
end
section
namespace DL
open PySem PySem.Spec L2 DLS
open PyProof.Rows hiding St
/-! ### own containers lent as data, for an answer that holds none of them -/
def atomD : D → Bool
  | .non => true
  | .bl _ => true
  | .int _ => true
  | .str _ => true
  | _ => false
def dataS : Sl → Sl
  | .cell c => .d (ocD c)
  | s => s
def dataE (ρ : DL.Env) : DL.Env := ρ.map dataS
def lendM (f : M D) : M D := fun ρ => match f (dataE ρ) with
  | .ok d _ => if atomD d = true then .ok d ρ else .stuck
  | _ => .stuck
/-- the own containers of a state -/
theorem StOk.cells {G : Gh} {σ : L2.St} {H : Hp} {ρ : DL.Env} (k : StOk G σ H ρ) : ∀ n, n ≤ ρ.length → ∃ l : List (Addr × HO), (l.map (·.1)).Nodup ∧ (∀ p ∈ l, ∃ i c, i < n ∧ ρ[i]? = some (.cell c) ∧ σ[i]? = some (some (.ref p.1)) ∧ H p.1 = some p.2 ∧ RepO G.m H p.1 p.2 c) ∧
    ∀ i c, i < n → ρ[i]? = some (.cell c) → ∃ p ∈ l, σ[i]? = some (some (.ref p.1)) ∧ H p.1 = some p.2 ∧ RepO G.m H p.1 p.2 c
  | 0, _ => ⟨[], List.nodup_nil, fun p hp => absurd hp List.not_mem_nil, fun i c h => absurd h (by omega)⟩
  | n + 1, hn => by
    obtain ⟨l, h1, h2, h3⟩ := k.cells n (by omega)
    have up : ∀ p ∈ l, ∃ i c, i < n + 1 ∧ ρ[i]? = some (.cell c) ∧ σ[i]? = some (some (.ref p.1)) ∧ H p.1 = some p.2 ∧ RepO G.m H p.1 p.2 c := fun p hp => by
      obtain ⟨i, c, a, b⟩ := h2 p hp
      exact ⟨i, c, by omega, b⟩
    have other : (∀ c, ρ[n]? ≠ some (.cell c)) → _ := fun hc => (⟨l, h1, up, fun i c hi e => by
      by_cases z : i = n
      · subst z; exact absurd e (hc c)
      · exact h3 i c (by omega) e⟩ : ∃ l : List (Addr × HO), (l.map (·.1)).Nodup ∧ (∀ p ∈ l, ∃ i c, i < n + 1 ∧ ρ[i]? = some (.cell c) ∧ σ[i]? = some (some (.ref p.1)) ∧ H p.1 = some p.2 ∧ RepO G.m H p.1 p.2 c) ∧
    ∀ i c, i < n + 1 → ρ[i]? = some (.cell c) → ∃ p ∈ l, σ[i]? = some (some (.ref p.1)) ∧ H p.1 = some p.2 ∧ RepO G.m H p.1 p.2 c)
    cases e : ρ[n]? with
    | none => exact other fun c z => by rw [e] at z; cases z
    | some s =>
      cases s with
      | cell c =>
        obtain ⟨a, o, g1, g2, g3, _⟩ := k.own n c e
        refine ⟨(a, o) :: l, ?_, ?_, ?_⟩
        · rw [List.map_cons]
          refine List.nodup_cons.mpr ⟨fun z => ?_, h1⟩
          obtain ⟨p, hp, e2⟩ := List.mem_map.mp z
          obtain ⟨i, c', a1, a2, a3, _⟩ := h2 p hp
          have e2 : p.1 = a := e2
          rw [e2] at a3
          exact k.sep i n c' c a (by omega) a2 e a3 g1
        · intro p hp
          rcases List.mem_cons.mp hp with z | hp
          · subst z; exact ⟨n, c, by omega, e, g1, g2, g3⟩
          · exact up p hp
        · intro i c' hi e'
          by_cases z : i = n
          · subst z
            rw [e] at e'; cases e'
            exact ⟨(a, o), List.mem_cons_self, g1, g2, g3⟩
          · obtain ⟨p, hp, q⟩ := h3 i c' (by omega) e'
            exact ⟨p, List.mem_cons_of_mem _ hp, q⟩
      | _ => exact other fun c z => by rw [e] at z; cases z
section
variable {X : Cx} {G : Gh} {W : WX} {e : Expr}
/-- .. a test -/
def lendT (f : M Bool) : M Bool := fun ρ => match f (dataE ρ) with
  | .ok b _ => .ok b ρ
  | _ => .stuck
end
section
variable {X : Cx} {G : Gh} {W : WX} {e : Expr}
end
end DL
end
section
namespace DL
open PySem PySem.Spec L2 DLS
open PyProof.Rows hiding St
/-! ### dicts whose keys are tuples of numbers, texts, tuples -/
mutual
def keyX : D → Option NestedKey
  | .non => some .none
  | .int i => some (.num i)
  | .str x => some (.text x)
  | .tup ds => (keyXs ds).map .tup
  | _ => none
def keyXs : List D → Option (List NestedKey)
  | [] => some []
  | d :: ds => (keyX d).bind fun k => (keyXs ds).map (k :: ·)
end
mutual
theorem keyX_nk : ∀ k : NestedKey, keyX (nkD k) = some k
  | .none => rfl
  | .num _ => rfl
  | .text _ => rfl
  | .tup ks => by rw [nkD, keyX, keyXs_nk ks]; rfl
theorem keyXs_nk : ∀ ks : List NestedKey, keyXs (nkDs ks) = some ks
  | [] => rfl
  | k :: ks => by rw [nkDs, keyXs, keyX_nk k, keyXs_nk ks]; rfl
end
section
variable {m : Md} {H : Hp} {X : Cx} {pins : List (Addr × Obj)} {σ : L2.St} {s : Shared}
mutual
theorem keyX_is (I : Inv X pins σ H s) (hm : m.K = X.K) : ∀ {d : D} {v : V} {u : Value} {k : NestedKey}, Rep m H v d → keyX d = some k → L2.RelV v u → NestedIs s.heap k u
  | .non, v, u, k, r, h, ru => by
    simp [keyX] at h; subst h
    cases r
    cases ru
    exact .none
  | .int i, v, u, k, r, h, ru => by
    simp [keyX] at h; subst h
    cases r
    obtain ⟨t, rfl⟩ := ru
    exact .int _ _
  | .str i, v, u, k, r, h, ru => by
    simp [keyX] at h; subst h
    cases r
    obtain ⟨t, rfl⟩ := ru
    exact .text _ _
  | .tup ds, v, u, k, r, h, ru => by
    simp only [keyX, Option.map_eq_some_iff] at h
    obtain ⟨ks, h1, rfl⟩ := h
    cases r with
    | tup hq rl =>
      rw [hm] at hq
      obtain ⟨its, rv, ⟨o, ho, hc, n, hd⟩, _⟩ := I.tuple hq
      cases ru
      exact .tup ho hc hd (by simpa using keyXs_is I hm rl h1 rv)
  | .bl _, _, _, k, _, h, _ => by simp [keyX] at h
  | .lst _, _, _, k, _, h, _ => by simp [keyX] at h
  | .dic _ _, _, _, k, _, h, _ => by simp [keyX] at h
  | .ins _ _ _, _, _, k, _, h, _ => by simp [keyX] at h
theorem keyXs_is (I : Inv X pins σ H s) (hm : m.K = X.K) : ∀ {ds : List D} {vs : List V} {us : List Value} {ks : List NestedKey}, RepL m H vs ds → keyXs ds = some ks → Vals vs us → NestedAll s.heap ks us
  | [], _, _, ks, r, h, ru => by
    simp [keyXs] at h; subst h
    cases r
    cases ru
    exact .nil
  | d :: ds, _, _, ks, r, h, ru => by
    simp only [keyXs, Option.bind_eq_some_iff, Option.map_eq_some_iff] at h
    obtain ⟨k, h1, ks', h2, rfl⟩ := h
    cases r with
    | cons a b =>
      cases ru with
      | cons c e => exact .cons (keyX_is I hm a h1 c) (keyXs_is I hm b h2 e)
end
end
/-- a key that is a tuple -/
def isNK (d : D) : Bool := match d, keyX d with
  | .tup _, some k => decide (k.depth ≤ 8)
  | _, _ => false
theorem isNK_inv {d : D} (h : isNK d = true) : ∃ ds k, d = .tup ds ∧ keyX d = some k ∧ k.depth ≤ 8 := by
  unfold isNK at h
  split at h
  · rename_i ds k e
    exact ⟨ds, k, rfl, e, of_decide_eq_true h⟩
  · cases h
def sameN (a b : D) : Bool := match keyX a, keyX b with
  | some k, some j => decide (k = j)
  | _, _ => false
theorem sameN_key {k j : NestedKey} {d : D} (h : keyX d = some j) : sameN (nkD k) d = decide (k = j) := by unfold sameN; rw [keyX_nk, h]
def getN (x : D) : List D → List D → Option D
  | k :: ks, v :: vs => if sameN k x = true then some v else getN x ks vs
  | _, _ => none
def putN (x d : D) (ks vs : List D) : List D × List D :=
  if (ks.any fun k => sameN k x) = true then (ks, (ks.zip vs).map fun p => if sameN p.1 x = true then d else p.2) else (ks ++ [x], vs ++ [d])
/-- a dict with the entries kvs, read -/
structure Nd (m : Md) (H : Hp) (a : Addr) (kvs : List NEnt) (ks : List D) : Prop where
  ob : Rd H a (NdO m.w a kvs) ∨ kvs = [] ∧ Rd H a (.dK [])
  ks_ : ks = kvs.map fun p => nkD p.1
  rp : RepL m H (kvs.map fun p => V.ref p.2.1) ks
  nk : ks.all isNK = true
def rowsN (kvs : List NEnt) (us : List Value) : List (NestedKey × Addr × Value) := (kvs.zip us).map fun p => (p.1.1, p.1.2.1, p.2)
section
variable {m : Md} {H : Hp} {X : Cx} {pins : List (Addr × Obj)} {σ : L2.St} {s : Shared} {a : Addr} {kvs : List NEnt} {ks : List D}
theorem Nd.keys (n : Nd m H a kvs ks) (I : Inv X pins σ H s) (hm : m.K = X.K) : ∀ p ∈ kvs, (nestedKind X.prog X.w).is s.heap p.1 p.2.1 := fun p hp => by
  obtain ⟨i, hi, e⟩ := List.mem_iff_getElem.mp hp
  have e1 : (kvs.map fun p => V.ref p.2.1)[i]? = some (.ref p.2.1) := by rw [List.getElem?_map, List.getElem?_eq_getElem hi, e]; rfl
  obtain ⟨d, g1, g2⟩ := n.rp.getV e1
  have e2 : d = nkD p.1 := by
    rw [n.ks_, List.getElem?_map, List.getElem?_eq_getElem hi, e] at g1
    simpa using g1.symm
  have hk := List.all_eq_true.mp n.nk d (List.mem_of_getElem? g1)
  obtain ⟨ds, k, _, h1, h2⟩ := isNK_inv hk
  rw [e2, keyX_nk] at h1
  cases h1
  exact ⟨keyX_is I hm g2 (by rw [e2, keyX_nk]) rfl, h2⟩
theorem Nd.dict (n : Nd m H a kvs ks) (I : Inv X pins σ H s) (hm : m.K = X.K) (hw : m.w = X.w) : ∃ us, Vals (kvs.map (·.2.2)) us ∧ kvs.length ≤ sizeLine ∧ (a == sysModules) = false ∧ s.heap.DictOfH (nestedKind X.prog X.w) a (rowsN kvs us) := by
  have isk := n.keys I hm
  rcases n.ob with o | ⟨rfl, o⟩
  · obtain ⟨⟨z, hd, us, hv, ob, es, ep, h1, h2, h3, h4, h5⟩, _⟩ := (show ObjOk X.prog X.w H s.heap a (NdO m.w a kvs) from Rd.ok o I.hok)
    refine ⟨us, hv, z, hd, ob, es, ep, h1, h2, h3, ?_, ?_, ?_⟩
    · rw [h4, rowsN, List.map_map, hw]; rfl
    · intro x hx
      obtain ⟨p, hp, rfl⟩ := List.mem_map.mp hx
      exact isk p.1 (List.of_mem_zip hp).1
    · have hl : kvs.length = us.length := by have := hv.length; simpa using this
      have : (rowsN kvs us).map (·.1) = kvs.map (·.1) := by
        unfold rowsN
        rw [List.map_map]
        have e : ((fun x : NestedKey × Addr × Value => x.1) ∘ fun p : NEnt × Value => (p.1.1, p.1.2.1, p.2)) = (fun p : NEnt => p.1) ∘ Prod.fst := rfl
        rw [e, ← List.map_map, List.map_fst_zip (by omega)]
      rw [this]; exact h5
  · obtain ⟨z, hd, vs, rel, ob, es, ep, h1, h2, h3, h4, h5, h6⟩ := dk_rd I.hok o
    have ev : vs = [] := by cases rel; rfl
    subst ev
    refine ⟨[], .nil, Nat.zero_le _, hd, ob, es, ep, h1, h2, h3, ?_, fun x hx => absurd hx List.not_mem_nil, List.nodup_nil⟩
    cases q : es.toList with
    | nil => rfl
    | cons x l => rw [q] at h5; cases h5
theorem at_rows {x : D} {k : NestedKey} (hk : keyX x = some k) : ∀ {kvs : List NEnt} {us : List Value} {ds : List D}, Vals (kvs.map (·.2.2)) us → RepL m H (kvs.map (·.2.2)) ds →
    (∀ d, getN x (kvs.map fun p => nkD p.1) ds = some d → ∃ b v u, atKey (rowsN kvs us) k = some (b, u) ∧ L2.RelV v u ∧ Rep m H v d) ∧ (getN x (kvs.map fun p => nkD p.1) ds = none → atKey (rowsN kvs us) k = none)
  | [], us, ds, hv, r => by
    cases r; cases hv
    exact ⟨fun d h => by simp [getN] at h, fun _ => rfl⟩
  | p :: l, us, ds, hv, r => by
    cases r with
    | cons r1 r2 =>
      cases hv with
      | cons v1 v2 =>
        rename_i d0 ds u us
        obtain ⟨i1, i2⟩ := at_rows hk v2 r2
        by_cases c : p.1 = k
        · have e : atKey (rowsN (p :: l) (u :: us)) k = some (p.2.1, u) := by simp [rowsN, atKey, c]
          refine ⟨fun d h => ?_, fun h => ?_⟩
          · simp only [List.map_cons, getN, sameN_key hk, c, decide_true, if_true] at h
            cases h
            exact ⟨_, _, _, e, v1, r1⟩
          · simp only [List.map_cons, getN, sameN_key hk, c, decide_true, if_true] at h
            cases h
        · have e : atKey (rowsN (p :: l) (u :: us)) k = atKey (rowsN l us) k := by simp [rowsN, atKey, c]
          rw [e]
          simp only [List.map_cons, getN, sameN_key hk, c, decide_false]
          exact ⟨i1, i2⟩
end
theorem any_get {x : D} : ∀ {ks ds : List D}, ks.length = ds.length → (ks.any fun k => sameN k x) = (getN x ks ds).isSome
  | [], [], _ => rfl
  | k :: ks, [], h => by simp at h
  | [], d :: ds, h => by simp at h
  | k :: ks, d :: ds, h => by
    rw [List.any_cons, getN]
    by_cases c : sameN k x = true
    · simp [c]
    · simp only [c, Bool.false_or, if_false]
      exact any_get (by simpa using h)
/-! reading -/
def inN (x y : D) : Option D := match y with
  | .dic ks _ => if (isNK x && ks.all isNK) = true then some (.bl (ks.any fun k => sameN k x)) else none
  | _ => none
def ninN (x y : D) : Option D := match y with
  | .dic ks _ => if (isNK x && ks.all isNK) = true then some (.bl (!ks.any fun k => sameN k x)) else none
  | _ => none
def ixN' (y x : D) : Option D := match y with
  | .dic ks vs => if (isNK x && ks.all isNK) = true then getN x ks vs else none
  | _ => none
/-- y is a dict (frozen or own) with entries, x a key of its kind -/
def NdK (m : Md) (H : Hp) (x : V) (k : NestedKey) : Prop := ∃ b d, x = V.ref b ∧ Rep m H (.ref b) d ∧ keyX d = some k ∧ k.depth ≤ 8
def rInN (m : Md) : R2 := fun x y H Q => ∃ a kvs ks ds k d, y = .ref a ∧ Nd m H a kvs ks ∧ RepL m H (kvs.map (·.2.2)) ds ∧ NdK m H x k ∧ keyX d = some k ∧ Q (.bl (getN d ks ds).isSome) H
def rIxN (m : Md) : R2 := fun y x H Q => ∃ a kvs ks ds k d e, y = .ref a ∧ Nd m H a kvs ks ∧ RepL m H (kvs.map (·.2.2)) ds ∧ NdK m H x k ∧ keyX d = some k ∧ getN d ks ds = some e ∧ ∀ v, Rep m H v e → Q v H
section
variable {m : Md} {X : Cx}
theorem some_rows {H : Hp} {kvs : List NEnt} {us : List Value} {ds ks : List D} {d : D} {k : NestedKey} (hk : keyX d = some k) (hv : Vals (kvs.map (·.2.2)) us) (r : RepL m H (kvs.map (·.2.2)) ds) (e : ks = kvs.map fun p => nkD p.1) : (atKey (rowsN kvs us) k).isSome = (getN d ks ds).isSome := by
  subst e
  obtain ⟨i1, i2⟩ := at_rows hk hv r
  cases g : getN d (kvs.map fun p => nkD p.1) ds with
  | none => rw [i2 g]; rfl
  | some z => obtain ⟨b, v, u, h, _⟩ := i1 z g; rw [h]; rfl
theorem op_inN (hm : m = ⟨X.K, X.mg, X.w⟩) (hv : X.A.units + 130 < cLine) : OpR X (compareOp .In) (rInN m) := by
  intro pins s σ H x y v u Q I rx ry ⟨a, kvs, ks, ds, k, d, ey, n, r, ⟨b, d', ex, rb, kd, kp⟩, hk, q⟩
  subst ey ex
  cases rx; cases ry
  obtain ⟨us, h1, _, h3, h4⟩ := n.dict I (by rw [hm]) (by rw [hm])
  refine wpAny_in_heap (knd := nestedKind X.prog X.w) (show X.A.units + 1 + 8 < cLine by omega) ⟨keyX_is I (by rw [hm]) rb kd rfl, kp⟩ h3 h4 ?_
  rw [some_rows hk h1 r n.ks_]
  exact ⟨.bl _, H, I.kept fun _ _ z => z, rfl, q⟩
theorem ix_N (hm : m = ⟨X.K, X.mg, X.w⟩) (hv : X.A.units + 130 < cLine) : IxR X (rIxN m) := by
  intro value slice pins s σ H y x v u Q I ry rx ⟨a, kvs, ks, ds, k, d, e, ey, n, r, ⟨b, d', ex, rb, kd, kp⟩, hk, hg, q⟩ hs
  subst ey ex
  cases rx; cases ry
  obtain ⟨us, h1, _, h3, h4⟩ := n.dict I (by rw [hm]) (by rw [hm])
  rw [n.ks_] at hg
  obtain ⟨b', v', u', g1, g2, g3⟩ := (at_rows hk h1 r).1 e hg
  refine tail_any h4.typeIs slot_dict_getitem.lookup (wpAny_getItem_heap (knd := nestedKind X.prog X.w) (show X.A.units + 1 + 8 < cLine by omega) ⟨keyX_is I (by rw [hm]) rb kd rfl, kp⟩ h4 g1 ?_) hs
  exact ⟨v', H, I.kept fun _ _ z => z, g2, q v' g3⟩
theorem ndK_of {H : Hp} {x : V} {dx : D} (r : Rep m H x dx) (h : isNK dx = true) : ∃ k, NdK m H x k ∧ keyX dx = some k := by
  obtain ⟨ds, k, rfl, h1, h2⟩ := isNK_inv h
  cases r with
  | tup q rl => exact ⟨k, ⟨_, _, rfl, .tup q rl, h1, h2⟩, h1⟩
/-- a frozen dict with nested keys (or the empty one) -/
theorem nd_frz {H : Hp} {y : V} {ks ds : List D} (r : Rep m H y (.dic ks ds)) (h : ks.all isNK = true) : ∃ a kvs, y = .ref a ∧ Nd m H a kvs ks ∧ RepL m H (kvs.map (·.2.2)) ds ∧ ks.length = ds.length := by
  cases r with
  | @dicK a o kvs _ q rl =>
    cases kvs with
    | nil =>
      cases rl
      exact ⟨a, [], rfl, ⟨.inr ⟨rfl, .inr ⟨o, q⟩⟩, rfl, .nil, rfl⟩, .nil, rfl⟩
    | cons p l =>
      rw [List.map_cons, List.all_cons, Bool.and_eq_true] at h
      obtain ⟨k, v⟩ := p
      cases k <;> exact absurd h.1 (by simp [keyD, isNK])
  | @dicN a o kvs _ _ q n e r1 r2 => exact ⟨a, kvs, rfl, ⟨.inl (.inr ⟨o, q⟩), e, r1, h⟩, r2, by rw [← r1.len, ← r2.len]; simp⟩
theorem opd_inN : OpD m (rInN m) inN := fun x y dx dy d H Q rx ry e k => by
  unfold inN at e
  split at e
  · rename_i ks ds
    by_cases c : (isNK dx && ks.all isNK) = true
    · rw [if_pos c] at e; cases e
      rw [Bool.and_eq_true] at c
      obtain ⟨a, kvs, rfl, n, r, hl⟩ := nd_frz ry c.2
      obtain ⟨ky, h1, h2⟩ := ndK_of rx c.1
      exact ⟨a, kvs, ks, ds, ky, dx, rfl, n, r, h1, h2, k _ H Grow.rfl (by rw [← any_get hl]; exact .bl _)⟩
    · rw [if_neg c] at e; cases e
  · cases e
theorem opd_ixN : OpD m (rIxN m) ixN' := fun y x dy dx d H Q ry rx e k => by
  unfold ixN' at e
  split at e
  · rename_i ks ds
    by_cases c : (isNK dx && ks.all isNK) = true
    · rw [if_pos c] at e
      rw [Bool.and_eq_true] at c
      obtain ⟨a, kvs, rfl, n, r, hl⟩ := nd_frz ry c.2
      obtain ⟨ky, h1, h2⟩ := ndK_of rx c.1
      exact ⟨a, kvs, ks, ds, ky, dx, d, rfl, n, r, h1, h2, e, fun v rv => k v H Grow.rfl rv⟩
    · rw [if_neg c] at e; cases e
  · cases e
end
end DL
end
section
namespace DL
open PySem PySem.Spec L2 DLS
open PyProof.Rows hiding St
/-! ### d[k] = v, d an own dict with nested keys -/
section
variable {m : Md} {X : Cx}
/-- d[k] = v -/
def setND (c : OC) (k d : D) : Option OC := match c with
  | .k ks vs => if (isNK k && ks.all isNK) = true ∧ ks.length < sizeLine then some (.k (putN k d ks vs).1 (putN k d ks vs).2) else none
  | _ => none
/-! ### all kinds of dicts -/
theorem SetC.or {r r' : TSet} {g g' : OC → D → D → Option OC} (h : SetC m r g) (h' : SetC m r' g') : SetC m (fun o i v H Q => r o i v H Q ∨ r' o i v H Q) (fun c k d => (g c k d).or (g' c k d)) := fun a o y v c c' dy d H Q ha ro ry rv e k => by
  have e : (g c dy d).or (g' c dy d) = some c' := e
  cases q : g c dy d with
  | some z => rw [q] at e; cases e; exact .inl (h a o y v c _ dy d H Q ha ro ry rv q k)
  | none => rw [q] at e; exact .inr (h' a o y v c c' dy d H Q ha ro ry rv e k)
def setAD (c : OC) (k d : D) : Option OC := (setKD c k d).or (setND c k d)
def opC (i : Nat) (g : OC → D → Option D) (fb : M D) : M D := bindM fb fun y => bindM (getC i) fun c => liftM (g c y)
/-- flat and nested -/
def ixC (c : OC) (y : D) : Option D := match c with
  | .k ks vs => if (isK y && ks.all isK) = true then dicGet y ks vs else if (isNK y && ks.all isNK) = true then getN y ks vs else none
  | .l _ => none
/-! data -/
def inX (x y : D) : Option D := (inD x y).or (inN x y)
def ninX (x y : D) : Option D := (ninD x y).or (ninN x y)
def ixX (x y : D) : Option D := (ixG x y).or (ixN' x y)
def rInX (m : Md) : R2 := fun x y H Q => rInA m.K x y H Q ∨ rInN m x y H Q
def rIxX (m : Md) : R2 := fun x y H Q => rIxG m.K x y H Q ∨ rIxN m x y H Q
theorem op_inX (hv : X.A.units + 130 < cLine) : OpR X (compareOp .In) (rInX ⟨X.K, X.mg, X.w⟩) := (op_inA hv).or (op_inN rfl hv)
theorem ix_X (hv : X.A.units + 130 < cLine) : IxR X (rIxX ⟨X.K, X.mg, X.w⟩) := (ix_G hv).or (ix_N rfl hv)
theorem opd_inX : OpD m (rInX m) inX := opd_in.or opd_inN
theorem opd_ixX : OpD m (rIxX m) ixX := opd_ixG.or opd_ixN
end
/-! ### is True, is False -/
section
variable {m : Md}
end
end DL
end
section
namespace DL
open PySem PySem.Spec L2 DLS
open PyProof.Rows hiding St
/-! ### t[::-1], a tuple or a list -/
section
variable {prog : Program} {w : World} {A : Around} {E : Value → Shared → Prop} {s : Shared}
end
section
variable {X : Cx}
end
section
variable {X : Cx} {G : Gh} {W : WX} {e : Expr} {pos p2 : Pos}
end
end DL
end
section
namespace DL
open PySem PySem.Spec L2 DLS
open PyProof.Rows hiding St
/-! ### a tuple whose last is a container of the def's own -/
/-- the arguments: data, the last a slot -/
def splitA : List Ag → Option (List D × Nat)
  | [.sl i] => some ([], i)
  | .d x :: r => (splitA r).map fun z => (x :: z.1, z.2)
  | _ => none
def tupT (i : Nat) (fa : M (List Ag)) : M D := bindM fa fun ags ρ => match splitA ags with
  | some z => if z.2 = i ∧ ags.length ≤ sizeLine then (match ρ[i]? with
    | some (.cell c) => .ok (.tup (z.1 ++ [ocD c])) (ρ.set i .no)
    | _ => .stuck) else .stuck
  | none => .stuck
abbrev TgxF := List D → OC → DL.Env → Option DL.Env
def asgX (n : Nat) (f : M D) (t : TgxF) : MS := bindM f fun d ρ => match splitT d with
  | some z => if z.1.length + 1 = n then (match t z.1 z.2 ρ with
    | some ρ' => .ok .nx ρ'
    | none => .stuck) else .stuck
  | none => .stuck
section
variable {X : Cx} {G : Gh} {W : WX} {e a b : Expr} {es : List Expr} {pos p : Pos} {rm : RM} {x : Str} {j k : Nat} {md : List Bool} {f : Fn} {fa : M (List Ag)}
/-! targets -/
end
end DL
end
section
namespace DL
open PySem PySem.Spec L2 PySem.SeqAt
open PyProof.Rows hiding St
/-! ### min of a list of alike data -/
section
variable {prog : Program} {w : World} {A : Around} {E : Value → Shared → Prop} {s : Shared}
end
end DL
end
section
/-! list(range(a, b, -1)) -/
namespace DL
open PySem PySem.Spec L2
open PyProof.Rows hiding St
section
variable {X : Cx} {G : Gh} {W : WX} {a b c : Expr} {p p2 pos pos2 : PySem.Pos} {f : M (List D)}
end
end DL
end
section
namespace DL
end DL
end
section
/-! texts: a text in a text, a whole number of a text; a module's list of texts -/
namespace DL
open PySem PySem.Spec L2
open PyProof.Rows hiding St
/-! ### a text in a text -/
/-! ### int(text) -/
def intTD : List D → Option D
  | [.str z] => if z.length ≤ 640 then (PySem.intText? z).map fun n => .int n else none
  | _ => none
def rIntT : List V → Hp → VK → Prop := fun xs H Q => ∃ (z : Str) (n : Int), xs = [.str z] ∧ z.length ≤ 640 ∧ PySem.intText? z = some n ∧ Q (.int n) H
theorem call_intT {X : Cx} : CallR X (.type "int") rIntT := by
  intro pins s σ H xs us Q I r h
  obtain ⟨z, n, rfl, hl, hn, q⟩ := h
  obtain ⟨u, rfl, t, rfl⟩ := vals1 r
  exact PySem.W.KIN.call_text hn hl ⟨.int n, H, I.tok _, ⟨_, rfl⟩, q⟩
theorem cd_intT {m : Md} : CallD m rIntT intTD := fun vs ds d H Q r e k => by
  unfold intTD at e
  split at e
  · obtain ⟨v, rfl, rv⟩ := one_of r
    rename_i z
    by_cases c : z.length ≤ 640
    · rw [if_pos c] at e
      cases q : PySem.intText? z with
      | none => rw [q] at e; cases e
      | some n =>
        rw [q] at e
        cases e; cases rv
        exact ⟨z, n, rfl, c, q, k _ H Grow.rfl (.int _)⟩
    · rw [if_neg c] at e; cases e
  · cases e
/-! ### a module's list of texts -/
section
variable {X : Cx} {G : Gh} {W : WX} {pos : Pos}
end
end DL
end
section
/-! sorted(a tuple) -/
namespace DL
open PySem PySem.Spec L2
open PyProof.Rows hiding St
section
variable {prog : Program} {w : World} {A : Around} {E : Value → Shared → Prop} {s : Shared}
end
section
variable {m : Md}
end
end DL
end
section
/-! dicts whose keys are nested: walked, measured, sorted, get, update -/
namespace DL
open PySem PySem.Spec L2 DLS
open PyProof.Rows hiding St
/-! ### walked -/
section
variable {X : Cx} {G : Gh} {W : WX}
end
/-! ### len(d) -/
/-! ### methods -/
section
variable {m : Md} {X : Cx}
theorem Nd.plain {pins : List (Addr × Obj)} {σ : L2.St} {H : Hp} {s : Shared} {a : Addr} {kvs : List NEnt} {ks : List D} (n : Nd m H a kvs ks) (I : L2.Inv X pins σ H s) (hm : m = ⟨X.K, X.mg, X.w⟩) : s.TypeIs (.ref a) "dict" ∧ ∀ b, Value.ref a = Value.ref b → ∃ ob, s.heap.get? b = some ob ∧ ob.dict = none := by
  obtain ⟨us, h1, h2, h3, h4⟩ := n.dict I (by rw [hm]) (by rw [hm])
  refine ⟨h4.typeIs, fun b e => ?_⟩
  cases e
  obtain ⟨o, es, ep, e1, e2, _⟩ := h4
  exact ⟨o, e1, e2.2.1⟩
/-! update -/
end
end DL
end
section
namespace DL
open PySem PySem.Spec L2 DLS
open PyProof.Rows hiding St
/-! ### d.get(k, x), d.update(e) -/
section
variable {m : Md} {X : Cx} {G : Gh} {W : WX} {e : Expr} {es : List Expr} {pos : PySem.Pos}
end
/-! ### sorted(d) -/
section
variable {prog : Program} {w : World} {A : Around} {E : Value → Shared → Prop} {s : Shared}
end
end DL
end
section
namespace DL
open PySem PySem.Spec L2 DLS
open PyProof.Rows hiding St
/-! ### {k: v}, k nested -/
section
variable {X : Cx} {G : Gh} {W : WX} {pos : PySem.Pos}
end
end DL
end
section
namespace DL
open PySem PySem.Spec L2
open PyProof.Rows hiding St
namespace Mi
def Yard_on_board : Fn := fnM false 2 (retM (andV (chainM leA ltA (pureM (.int 0)) (op2 ixX (getM 1) (pureM (.int 0))) (fldM "Yard" "height" (getM 0))) (chainM leA ltA (pureM (.int 0)) (op2 ixX (getM 1) (pureM (.int 1))) (fldM "Yard" "width" (getM 0)))))
def Yard_is_free : Fn := fnM false 2 (retM (andV (methD "Yard" "on_board" [false, false] Mi.Yard_on_board (getM 0) (consA (getM 1) (pureM []))) (op2 ninX (getM 1) (fldM "Yard" "holes" (getM 0)))))
def is_piece : Fn := fnM false 5 (seqM (asgM (getM 1) (tgU 3 (tgs1 (tgN 2) (tgs1 (tgN 3) (tgs1 (tgN 4) (tgs0)))))) (retM (andV (methD "Yard" "is_free" [false, false] Mi.Yard_is_free (getM 0) (consA (getM 2) (pureM []))) (andV (op2 inX (getM 3) (tupM (consM (pureM (.int 0)) (consM (pureM (.int 1)) (pureM []))))) (op2 inX (getM 4) (fldM "Yard" "kinds" (getM 0)))))))
def crowns : Fn := fnM false 6 (retM (lstM (compO (itemsGM (getM 1)) (tgU 3 (tgs1 (tgN 3) (tgs1 (tgN 4) (tgs1 (tgN 5) (tgs0))))) (andM (boolM (op2 eqD (getM 4) (getM 2))) (boolM (op2 eqD (op2 ixX (op2 ixX (fldM "Yard" "kinds" (getM 0)) (getM 5)) (pureM (.int 2))) (pureM (.int 1))))) (getM 3) [3, 4, 5])))
def is_position : Fn := fnM false 6 (seqM (asgM (getM 1) (tgU 2 (tgs1 (tgN 2) (tgs1 (tgN 3) (tgs0))))) (seqM (ifM (orM (boolM (op2 ninX (getM 2) (tupM (consM (pureM (.int 0)) (consM (pureM (.int 1)) (pureM [])))))) (notM (boolM (chainM leA leA (pureM (.int 1)) (callD lenG (consM (getM 3) (pureM []))) (pureM (.int 10)))))) (retM (pureM (.bl false))) (skipM)) (seqM (ifM (notM (boolM (callD allD (consM (lstM (compO (itemsGM (getM 3)) (tgN 4) (pureM true) (callM Mi.is_piece (mdM [false, false] (consA (getM 0) (consA (getM 4) (pureM []))))) [4])) (pureM []))))) (retM (pureM (.bl false))) (skipM)) (seqM (ifM (notM (boolM (callD allD (consM (lstM (compO (rg2M (consM (pureM (.int 1)) (consM (callD lenG (consM (getM 3) (pureM []))) (pureM [])))) (tgN 5) (pureM true) (op2 ltA (op2 ixX (op2 ixX (getM 3) (op2 subD (getM 5) (pureM (.int 1)))) (pureM (.int 0))) (op2 ixX (op2 ixX (getM 3) (getM 5)) (pureM (.int 0)))) [5])) (pureM []))))) (retM (pureM (.bl false))) (skipM)) (retM (op2 gtA (callD lenG (consM (op2 addD (callM Mi.crowns (mdM [false, false, false] (consA (getM 0) (consA (getM 3) (consA (pureM (.int 0)) (pureM [])))))) (callM Mi.crowns (mdM [false, false, false] (consA (getM 0) (consA (getM 3) (consA (pureM (.int 1)) (pureM []))))))) (pureM []))) (pureM (.int 0))))))))
def check_position : Fn := fnM false 2 (ifM (notM (boolM (callM Mi.is_position (mdM [false, false] (consA (getM 0) (consA (getM 1) (pureM []))))))) (raiseM "BadPosition") (skipM))
def rising : Fn := fnM false 2 (retM (callD allD (consM (lstM (compO (rg2M (consM (pureM (.int 1)) (consM (callD lenG (consM (getM 0) (pureM []))) (pureM [])))) (tgN 1) (pureM true) (op2 ltA (op2 ixX (getM 0) (op2 subD (getM 1) (pureM (.int 1)))) (op2 ixX (getM 0) (getM 1))) [1])) (pureM []))))
def piece_at : Fn := fnM false 5 (seqM (forD (itemsGM (getM 0)) (tgU 3 (tgs1 (tgN 2) (tgs1 (tgN 3) (tgs1 (tgN 4) (tgs0))))) (ifM (boolM (op2 eqD (getM 2) (getM 1))) (retM (tupM (consM (getM 3) (consM (getM 4) (pureM []))))) (skipM))) (retM (pureM .non)))
def turned_step : Fn := fnM false 2 (seqM (ifM (boolM (op2 eqD (getM 1) (pureM (.int 0)))) (retM (getM 0)) (skipM)) (retM (tupM (consM (op2 subD (pureM (.int 0)) (op2 ixX (getM 0) (pureM (.int 0)))) (consM (op2 subD (pureM (.int 0)) (op2 ixX (getM 0) (pureM (.int 1)))) (pureM []))))))
def gone : Fn := fnM false 3 (retM (tupM (consM (op2 addD (op2 ixX (getM 0) (pureM (.int 0))) (op2 mulD (getM 2) (op2 ixX (getM 1) (pureM (.int 0))))) (consM (op2 addD (op2 ixX (getM 0) (pureM (.int 1))) (op2 mulD (getM 2) (op2 ixX (getM 1) (pureM (.int 1))))) (pureM [])))))
def may_end : Fn := fnM false 5 (seqM (ifM (notM (boolM (methD "Yard" "is_free" [false, false] Mi.Yard_is_free (getM 0) (consA (getM 3) (pureM []))))) (retM (pureM (.bl false))) (skipM)) (seqM (setM 4 (callM Mi.piece_at (mdM [false, false] (consA (getM 1) (consA (getM 3) (pureM [])))))) (retM (orV (isN (getM 4)) (op2 neD (op2 ixX (getM 4) (pureM (.int 0))) (getM 2))))))
def ride : Fn := fnM false 7 (seqM (setOM 5 (sizeM (pureM []))) (seqM (setM 6 (pureM (.int 1))) (seqM (whileM (boolM (callM Mi.may_end (mdM [false, false, false, false] (consA (getM 0) (consA (getM 1) (consA (getM 2) (consA (callM Mi.gone (mdM [false, false, false] (consA (getM 3) (consA (getM 4) (consA (getM 6) (pureM [])))))) (pureM [])))))))) (seqM (dropM (mtO 5 appD (consM (getM 6) (pureM [])))) (seqM (ifM (boolM (notN (callM Mi.piece_at (mdM [false, false] (consA (getM 1) (consA (callM Mi.gone (mdM [false, false, false] (consA (getM 3) (consA (getM 4) (consA (getM 6) (pureM [])))))) (pureM []))))))) (retM (rdM 5)) (skipM)) (setM 6 (op2 addD (getM 6) (pureM (.int 1)))))) 100000) (retM (rdM 5)))))
def ways_of : Fn := fnM false 12 (seqM (asgM (getM 2) (tgU 3 (tgs1 (tgN 3) (tgs1 (tgN 4) (tgs1 (tgN 5) (tgs0)))))) (seqM (asgM (op2 ixX (fldM "Yard" "kinds" (getM 0)) (getM 5)) (tgU 3 (tgs1 (tgN 6) (tgs1 (tgN 7) (tgs1 (tgN 8) (tgs0)))))) (seqM (setOM 9 (sizeM (pureM []))) (seqM (forD (itemsGM (getM 6)) (tgN 10) (seqM (setM 10 (callM Mi.turned_step (mdM [false, false] (consA (getM 10) (consA (getM 4) (pureM [])))))) (ifM (boolM (callM Mi.may_end (mdM [false, false, false, false] (consA (getM 0) (consA (getM 1) (consA (getM 4) (consA (callM Mi.gone (mdM [false, false, false] (consA (getM 3) (consA (getM 10) (consA (pureM (.int 1)) (pureM [])))))) (pureM [])))))))) (dropM (mtO 9 appD (consM (tupM (consM (callM Mi.gone (mdM [false, false, false] (consA (getM 3) (consA (getM 10) (consA (pureM (.int 1)) (pureM [])))))) (consM (tupM (consM (pureM (.str "leap")) (consM (getM 10) (consM (pureM (.int 1)) (pureM []))))) (pureM [])))) (pureM [])))) (skipM)))) (seqM (forD (itemsGM (getM 7)) (tgN 10) (seqM (setM 10 (callM Mi.turned_step (mdM [false, false] (consA (getM 10) (consA (getM 4) (pureM [])))))) (forD (itemsGM (callM Mi.ride (mdM [false, false, false, false, false] (consA (getM 0) (consA (getM 1) (consA (getM 4) (consA (getM 3) (consA (getM 10) (pureM []))))))))) (tgN 11) (dropM (mtO 9 appD (consM (tupM (consM (callM Mi.gone (mdM [false, false, false] (consA (getM 3) (consA (getM 10) (consA (getM 11) (pureM [])))))) (consM (tupM (consM (pureM (.str "ride")) (consM (getM 10) (consM (getM 11) (pureM []))))) (pureM [])))) (pureM []))))))) (retM (rdM 9)))))))
def all_ways : Fn := fnM false 8 (seqM (asgM (getM 1) (tgU 2 (tgs1 (tgN 2) (tgs1 (tgN 3) (tgs0))))) (seqM (setOM 4 (sizeM (pureM []))) (seqM (forD (itemsGM (getM 3)) (tgN 5) (ifM (boolM (op2 eqD (op2 ixX (getM 5) (pureM (.int 1))) (getM 2))) (dropM (mtO 4 extD (consM (lstM (compO (itemsGM (callM Mi.ways_of (mdM [false, false, false] (consA (getM 0) (consA (getM 3) (consA (getM 5) (pureM []))))))) (tgU 2 (tgs1 (tgN 6) (tgs1 (tgN 7) (tgs0)))) (pureM true) (tupM (consM (tupM (consM (op2 ixX (getM 5) (pureM (.int 0))) (consM (getM 6) (pureM [])))) (consM (getM 7) (pureM [])))) [6, 7])) (pureM [])))) (skipM))) (retM (rdM 4)))))
def on_goal : Fn := fnM false 4 (retM (callD anyD (consM (lstM (compO (itemsGM (callM Mi.crowns (mdM [false, false, false] (consA (getM 0) (consA (getM 1) (consA (getM 2) (pureM []))))))) (tgN 3) (pureM true) (op2 inX (getM 3) (op2 ixX (fldM "Yard" "goals" (getM 0)) (getM 2))) [3])) (pureM []))))
def verdict_of : Fn := fnM false 5 (seqM (asgM (getM 1) (tgU 2 (tgs1 (tgN 2) (tgs1 (tgN 3) (tgs0))))) (seqM (forD (itemsGM (tupM (consM (pureM (.int 0)) (consM (pureM (.int 1)) (pureM []))))) (tgN 4) (ifM (boolM (op2 eqD (callD lenG (consM (callM Mi.crowns (mdM [false, false, false] (consA (getM 0) (consA (getM 3) (consA (getM 4) (pureM [])))))) (pureM []))) (pureM (.int 0)))) (retM (op2 subD (pureM (.int 1)) (getM 4))) (skipM))) (seqM (forD (itemsGM (tupM (consM (op2 subD (pureM (.int 1)) (getM 2)) (consM (getM 2) (pureM []))))) (tgN 4) (ifM (boolM (callM Mi.on_goal (mdM [false, false, false] (consA (getM 0) (consA (getM 3) (consA (getM 4) (pureM []))))))) (retM (getM 4)) (skipM))) (seqM (ifM (boolM (op2 eqD (callD lenG (consM (callM Mi.all_ways (mdM [false, false] (consA (getM 0) (consA (getM 1) (pureM []))))) (pureM []))) (pureM (.int 0)))) (retM (iteM (boolM (op2 eqD (fldM "Yard" "stuck" (getM 0)) (pureM (.str "lost")))) (op2 subD (pureM (.int 1)) (getM 2)) (pureM (.str "drawn")))) (skipM)) (retM (pureM .non))))))
def moves_of : Fn := fnM true 4 (seqM (ifM (boolM (notN (callM Mi.verdict_of (mdM [false, false] (consA (getM 0) (consA (getM 1) (pureM []))))))) (retM (lstM (sizeM (pureM [])))) (skipM)) (retM (lstM (callO sortS (consM (lstM (compO (itemsGM (callM Mi.all_ways (mdM [false, false] (consA (getM 0) (consA (getM 1) (pureM [])))))) (tgU 2 (tgs1 (tgN 2) (tgs1 (tgN 3) (tgs0)))) (pureM true) (getM 2) [2, 3])) (pureM []))))))
def moves : Fn := fnM true 2 (seqM (dropM (callM Mi.check_position (mdM [false, false] (consA (getM 0) (consA (getM 1) (pureM [])))))) (retM (callM Mi.moves_of (mdM [false, false] (consA (getM 0) (consA (getM 1) (pureM [])))))))
def check_move : Fn := fnM false 3 (seqM (dropM (callM Mi.check_position (mdM [false, false] (consA (getM 0) (consA (getM 1) (pureM [])))))) (seqM (ifM (boolM (notN (callM Mi.verdict_of (mdM [false, false] (consA (getM 0) (consA (getM 1) (pureM []))))))) (raiseM "Ended") (skipM)) (ifM (boolM (op2 ninX (getM 2) (callM Mi.moves_of (mdM [false, false] (consA (getM 0) (consA (getM 1) (pureM []))))))) (raiseM "NoMove") (skipM))))
def after_of : Fn := fnM false 8 (seqM (asgM (getM 0) (tgU 2 (tgs1 (tgN 2) (tgs1 (tgN 3) (tgs0))))) (seqM (setOM 4 (sizeM (pureM []))) (seqM (forD (itemsGM (getM 3)) (tgU 3 (tgs1 (tgN 5) (tgs1 (tgN 6) (tgs1 (tgN 7) (tgs0))))) (ifM (boolM (op2 eqD (getM 5) (op2 ixX (getM 1) (pureM (.int 0))))) (dropM (mtO 4 appD (consM (tupM (consM (op2 ixX (getM 1) (pureM (.int 1))) (consM (getM 6) (consM (getM 7) (pureM []))))) (pureM [])))) (ifM (boolM (op2 neD (getM 5) (op2 ixX (getM 1) (pureM (.int 1))))) (dropM (mtO 4 appD (consM (tupM (consM (getM 5) (consM (getM 6) (consM (getM 7) (pureM []))))) (pureM [])))) (skipM)))) (retM (tupM (consM (op2 subD (pureM (.int 1)) (getM 2)) (consM (callD tupC (consM (lstM (callO sortG (consM (rdM 4) (pureM [])))) (pureM []))) (pureM []))))))))
def after : Fn := fnM false 3 (seqM (dropM (callM Mi.check_move (mdM [false, false, false] (consA (getM 0) (consA (getM 1) (consA (getM 2) (pureM []))))))) (retM (callM Mi.after_of (mdM [false, false] (consA (getM 1) (consA (getM 2) (pureM [])))))))
def verdict : Fn := fnM false 2 (seqM (dropM (callM Mi.check_position (mdM [false, false] (consA (getM 0) (consA (getM 1) (pureM [])))))) (retM (callM Mi.verdict_of (mdM [false, false] (consA (getM 0) (consA (getM 1) (pureM [])))))))
def walked : Fn := fnM true 5 (seqM (dropM (callM Mi.check_position (mdM [false, false] (consA (getM 0) (consA (getM 1) (pureM [])))))) (seqM (setOM 3 (sizeM (consM (getM 1) (pureM [])))) (seqM (forD (itemsGM (getM 2)) (tgN 4) (dropM (mtO 3 appD (consM (callM Mi.after (mdM [false, false, false] (consA (getM 0) (consA (bindM (getO 3) fun _ => opO 3 ixO (negM (pureM (.int 1)))) (consA (getM 4) (pureM [])))))) (pureM []))))) (retM (giveX 3)))))
def check_many : Fn := fnM false 2 (ifM (notM (boolM (chainM leA leA (pureM (.int 0)) (getM 0) (getM 1)))) (raiseM "TooMany") (skipM))
def count_of : Nat → Fn
  | 0 => fun _ => .stuck
  | n + 1 => fnM false 4 (seqM (ifM (boolM (op2 eqD (getM 2) (pureM (.int 0)))) (retM (pureM (.int 1))) (skipM)) (retM (callD sumD (consM (lstM (compO (itemsGM (callM Mi.moves_of (mdM [false, false] (consA (getM 0) (consA (getM 1) (pureM [])))))) (tgN 3) (pureM true) (callM (Mi.count_of n) (mdM [false, false, false] (consA (getM 0) (consA (callM Mi.after_of (mdM [false, false] (consA (getM 1) (consA (getM 3) (pureM []))))) (consA (op2 subD (getM 2) (pureM (.int 1))) (pureM [])))))) [3])) (pureM [])))))
def count : Fn := fnM false 3 (seqM (dropM (callM Mi.check_position (mdM [false, false] (consA (getM 0) (consA (getM 1) (pureM [])))))) (seqM (dropM (callM Mi.check_many (mdM [false, false] (consA (getM 2) (consA (pureM (.int 6)) (pureM [])))))) (retM (callM (Mi.count_of 16) (mdM [false, false, false] (consA (getM 0) (consA (getM 1) (consA (getM 2) (pureM [])))))))))
def is_exchanged : Fn := fnM false 1 (retM (op2 eqD (op2 ixX (getM 0) (pureM (.int 0))) (pureM (.str "x"))))
def quarters : Fn := fnM false 1 (retM (callD intTD (consM (op2 ixX (getM 0) (negM (pureM (.int 1)))) (pureM []))))
def cell_over : Fn := fnM false 7 (seqM (asgM (getM 2) (tgU 2 (tgs1 (tgN 3) (tgs1 (tgN 4) (tgs0))))) (seqM (ifM (boolM (op2 eqD (slM (getM 1) (partM (negM (pureM (.int 5)))) (partM (negM (pureM (.int 1))))) (pureM (.str "flip")))) (setM 4 (op2 subD (op2 subD (fldM "Yard" "width" (getM 0)) (pureM (.int 1))) (getM 4))) (skipM)) (seqM (setM 5 (tupM (consM (fldM "Yard" "height" (getM 0)) (consM (fldM "Yard" "width" (getM 0)) (pureM []))))) (seqM (forD (rg1M (consM (callM Mi.quarters (mdM [false] (consA (getM 1) (pureM [])))) (pureM []))) (tgN 6) (seqM (parM 3 4 (consM (getM 4) (consM (op2 subD (op2 subD (op2 ixX (getM 5) (pureM (.int 0))) (pureM (.int 1))) (getM 3)) (pureM [])))) (setM 5 (tupM (consM (op2 ixX (getM 5) (pureM (.int 1))) (consM (op2 ixX (getM 5) (pureM (.int 0))) (pureM []))))))) (retM (tupM (consM (getM 3) (consM (getM 4) (pureM [])))))))))
def step_over : Fn := fnM false 5 (seqM (asgM (getM 1) (tgU 2 (tgs1 (tgN 2) (tgs1 (tgN 3) (tgs0))))) (seqM (ifM (boolM (op2 eqD (slM (getM 0) (partM (negM (pureM (.int 5)))) (partM (negM (pureM (.int 1))))) (pureM (.str "flip")))) (setM 3 (op2 subD (pureM (.int 0)) (getM 3))) (skipM)) (seqM (forD (rg1M (consM (callM Mi.quarters (mdM [false] (consA (getM 0) (pureM [])))) (pureM []))) (tgN 4) (parM 2 3 (consM (getM 3) (consM (op2 subD (pureM (.int 0)) (getM 2)) (pureM []))))) (seqM (ifM (boolM (callM Mi.is_exchanged (mdM [false] (consA (getM 0) (pureM []))))) (retM (tupM (consM (op2 subD (pureM (.int 0)) (getM 2)) (consM (op2 subD (pureM (.int 0)) (getM 3)) (pureM []))))) (skipM)) (retM (tupM (consM (getM 2) (consM (getM 3) (pureM [])))))))))
def cells_over : Fn := fnM false 4 (retM (lstM (callO sortG (consM (lstM (compO (itemsGM (getM 2)) (tgN 3) (pureM true) (callM Mi.cell_over (mdM [false, false, false] (consA (getM 0) (consA (getM 1) (consA (getM 3) (pureM [])))))) [3])) (pureM [])))))
def steps_stay : Fn := fnM false 5 (seqM (forD (itemsGM (fldM "Yard" "kinds" (getM 0))) (tgN 2) (forD (itemsGM (slM (op2 ixX (fldM "Yard" "kinds" (getM 0)) (getM 2)) (pureM none) (partM (pureM (.int 2))))) (tgN 3) (ifM (boolM (op2 neD (lstM (callO sortG (consM (lstM (compO (itemsGM (getM 3)) (tgN 4) (pureM true) (callM Mi.step_over (mdM [false, false] (consA (getM 1) (consA (getM 4) (pureM []))))) [4])) (pureM [])))) (getM 3))) (retM (pureM (.bl false))) (skipM)))) (retM (pureM (.bl true))))
def goals_stay : Fn := fnM false 4 (seqM (forD (itemsGM (tupM (consM (pureM (.int 0)) (consM (pureM (.int 1)) (pureM []))))) (tgN 2) (seqM (setM 3 (iteM (boolM (callM Mi.is_exchanged (mdM [false] (consA (getM 1) (pureM []))))) (op2 subD (pureM (.int 1)) (getM 2)) (getM 2))) (ifM (boolM (op2 neD (callM Mi.cells_over (mdM [false, false, false] (consA (getM 0) (consA (getM 1) (consA (op2 ixX (fldM "Yard" "goals" (getM 0)) (getM 2)) (pureM [])))))) (op2 ixX (fldM "Yard" "goals" (getM 0)) (getM 3)))) (retM (pureM (.bl false))) (skipM)))) (retM (pureM (.bl true))))
def is_borne : Fn := fnM false 2 (seqM (ifM (andM (boolM (op2 eqD (op2 modD (callM Mi.quarters (mdM [false] (consA (getM 1) (pureM [])))) (pureM (.int 2))) (pureM (.int 1)))) (boolM (op2 neD (fldM "Yard" "height" (getM 0)) (fldM "Yard" "width" (getM 0))))) (retM (pureM (.bl false))) (skipM)) (seqM (ifM (boolM (op2 neD (callM Mi.cells_over (mdM [false, false, false] (consA (getM 0) (consA (getM 1) (consA (fldM "Yard" "holes" (getM 0)) (pureM [])))))) (fldM "Yard" "holes" (getM 0)))) (retM (pureM (.bl false))) (skipM)) (retM (andV (callM Mi.steps_stay (mdM [false, false] (consA (getM 0) (consA (getM 1) (pureM []))))) (callM Mi.goals_stay (mdM [false, false] (consA (getM 0) (consA (getM 1) (pureM [])))))))))
def bears : Fn := fnM true 2 (retM (lstM (compO (itemsGM (pureM (.lst ((["turn0", "turn1", "turn2", "turn3", "flip0", "flip1", "flip2", "flip3", "xturn0", "xturn1", "xturn2", "xturn3", "xflip0", "xflip1", "xflip2", "xflip3"] : List Str).map D.str)))) (tgN 1) (boolM (callM Mi.is_borne (mdM [false, false] (consA (getM 0) (consA (getM 1) (pureM [])))))) (getM 1) [1])))
def side_over : Fn := fnM false 2 (retM (iteM (boolM (callM Mi.is_exchanged (mdM [false] (consA (getM 0) (pureM []))))) (op2 subD (pureM (.int 1)) (getM 1)) (getM 1)))
def over_of : Fn := fnM false 9 (seqM (asgM (getM 2) (tgU 2 (tgs1 (tgN 3) (tgs1 (tgN 4) (tgs0))))) (seqM (setOM 5 (compO (itemsGM (getM 4)) (tgU 3 (tgs1 (tgN 6) (tgs1 (tgN 7) (tgs1 (tgN 8) (tgs0))))) (pureM true) (tupM (consM (callM Mi.cell_over (mdM [false, false, false] (consA (getM 0) (consA (getM 1) (consA (getM 6) (pureM [])))))) (consM (callM Mi.side_over (mdM [false, false] (consA (getM 1) (consA (getM 7) (pureM []))))) (consM (getM 8) (pureM []))))) [6, 7, 8])) (retM (tupM (consM (callM Mi.side_over (mdM [false, false] (consA (getM 1) (consA (getM 3) (pureM []))))) (consM (callD tupC (consM (lstM (callO sortG (consM (rdM 5) (pureM [])))) (pureM []))) (pureM [])))))))
def kin : Fn := fnM true 3 (seqM (dropM (callM Mi.check_position (mdM [false, false] (consA (getM 0) (consA (getM 1) (pureM [])))))) (retM (lstM (callO sortS (consM (lstM (compO (itemsGM (callM Mi.bears (mdM [false] (consA (getM 0) (pureM []))))) (tgN 2) (pureM true) (callM Mi.over_of (mdM [false, false, false] (consA (getM 0) (consA (getM 2) (consA (getM 1) (pureM [])))))) [2])) (pureM []))))))
def check_asked : Fn := fnM false 4 (seqM (dropM (callM Mi.check_position (mdM [false, false] (consA (getM 0) (consA (getM 1) (pureM [])))))) (seqM (ifM (boolM (op2 ninX (getM 2) (tupM (consM (pureM (.int 0)) (consM (pureM (.int 1)) (pureM [])))))) (raiseM "BadSide") (skipM)) (ifM (notM (boolM (chainM leA leA (pureM (.int 0)) (getM 3) (pureM (.int 8))))) (raiseM "TooMany") (skipM))))
def wins : Nat → Fn
  | 0 => fun _ => .stuck
  | n + 1 => fnM false 10 (seqM (setM 5 (callM Mi.verdict_of (mdM [false, false] (consA (getM 0) (consA (getM 1) (pureM [])))))) (seqM (ifM (orM (boolM (notN (getM 5))) (boolM (op2 eqD (getM 3) (pureM (.int 0))))) (retM (op2 eqD (getM 5) (getM 2))) (skipM)) (seqM (setM 6 (tupM (consM (getM 1) (consM (getM 3) (pureM []))))) (seqM (ifM (lendT (boolM (op2 ninX (getM 6) (getM 4)))) (seqM (setOM 7 (compO (itemsGM (callM Mi.moves_of (mdM [false, false] (consA (getM 0) (consA (getM 1) (pureM [])))))) (tgN 8) (pureM true) (callM Mi.after_of (mdM [false, false] (consA (getM 1) (consA (getM 8) (pureM []))))) [8])) (ifM (boolM (op2 eqD (op2 ixX (getM 1) (pureM (.int 0))) (getM 2))) (setGM setAD 4 (getM 6) (callD anyD (consM (lstM (compO (itemsGM (rdM 7)) (tgN 9) (pureM true) (callM (Mi.wins n) (mdM [false, false, false, false, true] (consA (getM 0) (consA (getM 9) (consA (getM 2) (consA (op2 subD (getM 3) (pureM (.int 1))) (bindM (haveS 4) fun _ => consS 4 (pureM [])))))))) [9])) (pureM [])))) (setGM setAD 4 (getM 6) (callD allD (consM (lstM (compO (itemsGM (rdM 7)) (tgN 9) (pureM true) (callM (Mi.wins n) (mdM [false, false, false, false, true] (consA (getM 0) (consA (getM 9) (consA (getM 2) (consA (op2 subD (getM 3) (pureM (.int 1))) (bindM (haveS 4) fun _ => consS 4 (pureM [])))))))) [9])) (pureM [])))))) (skipM)) (retM (bindM (getC 4) fun _ => opC 4 ixC (getM 6)))))))
def is_tree : Nat → Fn
  | 0 => fun _ => .stuck
  | n + 1 => fnM false 3 (seqM (ifM (boolM (op2 eqD (getM 0) (tupM (consM (getM 1) (pureM []))))) (retM (pureM (.bl true))) (skipM)) (seqM (ifM (andM (boolM (op2 eqD (callD lenG (consM (getM 0) (pureM []))) (pureM (.int 3)))) (boolM (op2 eqD (op2 ixX (getM 0) (pureM (.int 0))) (pureM (.str "move"))))) (retM (callM (Mi.is_tree n) (mdM [false, false] (consA (op2 ixX (getM 0) (pureM (.int 2))) (consA (getM 1) (pureM [])))))) (skipM)) (seqM (ifM (andM (boolM (op2 eqD (callD lenG (consM (getM 0) (pureM []))) (pureM (.int 2)))) (andM (boolM (op2 eqD (op2 ixX (getM 0) (pureM (.int 0))) (pureM (.str "all")))) (boolM (op2 gtA (callD lenG (consM (op2 ixX (getM 0) (pureM (.int 1))) (pureM []))) (pureM (.int 0)))))) (retM (callD allD (consM (lstM (compO (itemsGM (op2 ixX (getM 0) (pureM (.int 1)))) (tgN 2) (pureM true) (callM (Mi.is_tree n) (mdM [false, false] (consA (op2 ixX (getM 2) (pureM (.int 1))) (consA (getM 1) (pureM []))))) [2])) (pureM [])))) (skipM)) (retM (pureM (.bl false))))))
def least_by : Fn := fnM false 6 (seqM (forD (rg1M (consM (op2 addD (getM 3) (pureM (.int 1))) (pureM []))) (tgN 5) (ifM (boolM (callM (Mi.wins 16) (mdM [false, false, false, false, true] (consA (getM 0) (consA (getM 1) (consA (getM 2) (consA (getM 5) (bindM (haveS 4) fun _ => consS 4 (pureM []))))))))) (retM (getM 5)) (skipM))) (retM (pureM .non)))
def least_of : Fn := fnM false 4 (retM (callM Mi.least_by (mdM [false, false, false, false, true] (consA (getM 0) (consA (getM 1) (consA (getM 2) (consA (getM 3) (consC (pureM (.k [] [])) (pureM [])))))))))
def least : Fn := fnM false 4 (seqM (dropM (callM Mi.check_asked (mdM [false, false, false, false] (consA (getM 0) (consA (getM 1) (consA (getM 2) (consA (getM 3) (pureM [])))))))) (retM (callM Mi.least_of (mdM [false, false, false, false] (consA (getM 0) (consA (getM 1) (consA (getM 2) (consA (getM 3) (pureM [])))))))))
def depth_of : Nat → Fn
  | 0 => fun _ => .stuck
  | n + 1 => fnM false 2 (seqM (ifM (boolM (op2 eqD (op2 ixX (getM 0) (pureM (.int 0))) (pureM (.str "move")))) (retM (op2 addD (pureM (.int 1)) (callM (Mi.depth_of n) (mdM [false] (consA (op2 ixX (getM 0) (pureM (.int 2))) (pureM [])))))) (skipM)) (seqM (ifM (boolM (op2 eqD (op2 ixX (getM 0) (pureM (.int 0))) (pureM (.str "all")))) (retM (op2 addD (pureM (.int 1)) (callD maxLD (consM (lstM (compO (itemsGM (op2 ixX (getM 0) (pureM (.int 1)))) (tgN 1) (pureM true) (callM (Mi.depth_of n) (mdM [false] (consA (op2 ixX (getM 1) (pureM (.int 1))) (pureM [])))) [1])) (pureM []))))) (skipM)) (retM (pureM (.int 0)))))
def check_either : Fn := fnM false 1 (ifM (andM (notM (boolM (callM (Mi.is_tree 16) (mdM [false, false] (consA (getM 0) (consA (pureM (.str "won")) (pureM []))))))) (notM (boolM (callM (Mi.is_tree 16) (mdM [false, false] (consA (getM 0) (consA (pureM (.str "not")) (pureM [])))))))) (raiseM "BadPaper") (skipM))
def depth : Fn := fnM false 1 (seqM (dropM (callM Mi.check_either (mdM [false] (consA (getM 0) (pureM []))))) (retM (callM (Mi.depth_of 16) (mdM [false] (consA (getM 0) (pureM []))))))
def check_problem : Fn := fnM false 3 (seqM (dropM (callM Mi.check_position (mdM [false, false] (consA (getM 0) (consA (getM 1) (pureM [])))))) (seqM (ifM (notM (boolM (chainM leA leA (pureM (.int 1)) (getM 2) (pureM (.int 7))))) (raiseM "TooMany") (skipM)) (ifM (boolM (notN (callM Mi.verdict_of (mdM [false, false] (consA (getM 0) (consA (getM 1) (pureM []))))))) (raiseM "Ended") (skipM))))
def keys_of : Fn := fnM true 7 (seqM (setCM 3 (pureM (.k [] []))) (seqM (setM 4 (op2 ixX (getM 1) (pureM (.int 0)))) (seqM (setM 5 (callM Mi.moves_of (mdM [false, false] (consA (getM 0) (consA (getM 1) (pureM [])))))) (retM (lstM (compO (itemsGM (getM 5)) (tgN 6) (boolM (callM (Mi.wins 16) (mdM [false, false, false, false, true] (consA (getM 0) (consA (callM Mi.after_of (mdM [false, false] (consA (getM 1) (consA (getM 6) (pureM []))))) (consA (getM 4) (consA (op2 subD (getM 2) (pureM (.int 1))) (bindM (haveS 3) fun _ => consS 3 (pureM []))))))))) (getM 6) [6]))))))
def keys : Fn := fnM true 3 (seqM (dropM (callM Mi.check_problem (mdM [false, false, false] (consA (getM 0) (consA (getM 1) (consA (getM 2) (pureM []))))))) (retM (callM Mi.keys_of (mdM [false, false, false] (consA (getM 0) (consA (getM 1) (consA (getM 2) (pureM []))))))))
def numbers : Fn := fnM false 7 (seqM (dropM (callM Mi.check_asked (mdM [false, false, false, false] (consA (getM 0) (consA (getM 1) (consA (getM 2) (consA (getM 3) (pureM [])))))))) (seqM (setCM 5 (pureM (.k [] []))) (retM (lstM (compO (itemsGM (callM Mi.walked (mdM [false, false, false] (consA (getM 0) (consA (getM 1) (consA (getM 4) (pureM []))))))) (tgN 6) (pureM true) (callM Mi.least_by (mdM [false, false, false, false, true] (consA (getM 0) (consA (getM 6) (consA (getM 2) (consA (getM 3) (bindM (haveS 5) fun _ => consS 5 (pureM [])))))))) [6])))))
end Mi
end DL
end
section
namespace DL
open PySem PySem.Spec L2
open PyProof.Rows hiding St
namespace Mi
def law_cell_at : Fn := fnM false 2 (seqM (ifM (boolM (op2 ltA (getM 1) (callD lenG (consM (getM 0) (pureM []))))) (retM (op2 ixX (getM 0) (getM 1))) (skipM)) (retM (pureM (.int 0))))
end Mi
end DL
end
section
namespace DL
open PySem PySem.Spec L2
open PyProof.Rows hiding St
namespace Mi
def law_mix : Fn := fnM false 5 (seqM (setM 3 (lstM (sizeM (consM (pureM (.int 48271)) (consM (pureM (.int 69621)) (consM (pureM (.int 16807)) (consM (pureM (.int 39373)) (consM (pureM (.int 30269)) (consM (pureM (.int 40014)) (consM (pureM (.int 40692)) (consM (pureM (.int 50021)) (consM (pureM (.int 61687)) (consM (pureM (.int 71993)) (consM (pureM (.int 83869)) (consM (pureM (.int 95561)) (consM (pureM (.int 30307)) (pureM []))))))))))))))))) (seqM (setM 4 (op2 addD (op2 addD (op2 mulD (op2 addD (op2 modD (getM 0) (pureM (.int 2147483647))) (pureM (.int 12345))) (op2 ixX (getM 3) (op2 modD (getM 1) (pureM (.int 13))))) (op2 mulD (pureM (.int 977)) (getM 1))) (op2 mulD (pureM (.int 7919)) (op2 divD (getM 1) (pureM (.int 13)))))) (seqM (setM 4 (op2 modD (getM 4) (pureM (.int 1000000007)))) (retM (op2 modD (op2 divD (op2 modD (op2 addD (op2 mulD (getM 4) (getM 4)) (op2 mulD (pureM (.int 48271)) (getM 1))) (pureM (.int 1000000007))) (pureM (.int 7))) (getM 2))))))
def law_list : Fn := fnM false 6 (seqM (setM 3 (op2 subD (getM 0) (op2 powD (pureM (.int 10)) (pureM (.int 18))))) (seqM (setOM 4 (sizeM (pureM []))) (seqM (forD (rg1M (consM (getM 1) (pureM []))) (tgN 5) (ifM (boolM (op2 geA (getM 3) (pureM (.int 0)))) (seqM (dropM (mtO 4 appD (consM (op2 modD (getM 3) (getM 2)) (pureM [])))) (setM 3 (op2 divD (getM 3) (getM 2)))) (dropM (mtO 4 appD (consM (callM Mi.law_mix (mdM [false, false, false] (consA (getM 0) (consA (getM 5) (consA (getM 2) (pureM [])))))) (pureM [])))))) (retM (rdM 4)))))
end Mi
end DL
end
section
namespace DL
open PySem PySem.Spec L2
open PyProof.Rows hiding St
namespace Mi
end Mi
end DL
end
section
/-! texts: str(n), join, split, upper, find, count; max of a tuple -/
namespace DL
open PySem PySem.Spec L2
open PyProof.Rows hiding St
/-! ### str(n) -/
def strD : List D → Option D
  | [.int i] => if i.natAbs.log2 < 1920 then some (.str (toString i)) else none
  | _ => none
theorem cd_str {m : Md} : CallD m (fun xs H Q => ∃ i, xs = [.int i] ∧ i.natAbs.log2 < 1920 ∧ Q (.str (toString i)) H) strD := fun vs ds d H Q r e k => by
  unfold strD at e
  split at e
  · obtain ⟨v, rfl, rv⟩ := one_of r
    rename_i i
    by_cases c : i.natAbs.log2 < 1920
    · rw [if_pos c] at e
      cases e; cases rv
      exact ⟨i, rfl, c, k _ H Grow.rfl (.str _)⟩
    · rw [if_neg c] at e; cases e
  · cases e
/-! ### sep.join(texts) -/
def txtsD : List D → Option (List Str)
  | [] => some []
  | .str z :: ds => (txtsD ds).map (z :: ·)
  | _ :: _ => none
theorem txts_rep {m : Md} {H : Hp} : ∀ {ds : List D} {vs : List V} {ys : List Str}, RepL m H vs ds → txtsD ds = some ys → vs = ys.map V.str
  | [], _, _, r, e => by cases r; cases e; rfl
  | d :: ds, _, _, r, e => by
    cases r with
    | cons a b =>
      cases d with
      | str z =>
        cases a
        unfold txtsD at e
        cases q : txtsD ds with
        | none => rw [q] at e; cases e
        | some ys =>
          rw [q] at e
          cases e
          rw [txts_rep b q]; rfl
      | _ => cases e
def joinD (x : D) (as : List D) : Option D := match x, as with
  | .str a, [.lst ds] => (txtsD ds).bind fun ys => if (ys.map (·.length)).sum + ys.length * a.length ≤ 16777216 then some (.str (Txt.join a ys)) else none
  | _, _ => none
theorem mv_join {m : Md} : MtV m (fun x xs H Q => ∃ a p, ∃ ys : List Str, x = .str a ∧ xs = [.ref p] ∧ (SqL m.K H p (ys.map V.str) ∨ SqT m.K H p (ys.map V.str)) ∧ (ys.map (·.length)).sum + ys.length * a.length ≤ 16777216 ∧ Q (.str (Txt.join a ys)) H) joinD := fun x vs dx d ds H Q rx rs e k => by
  unfold joinD at e
  split at e
  · rename_i a ds
    cases rx
    obtain ⟨v, rfl, rv⟩ := one_of rs
    cases rv with
    | lst q rl =>
      cases t : txtsD ds with
      | none => rw [t] at e; cases e
      | some ys =>
        rw [t] at e
        have e : (if (ys.map (·.length)).sum + ys.length * a.length ≤ 16777216 then some (D.str (Txt.join a ys)) else none) = some d := e
        split at e
        · rename_i c
          cases e
          refine ⟨a, _, ys, rfl, rfl, .inl ?_, c, k _ H Grow.rfl (.str _)⟩
          rw [← txts_rep rl t]; exact q.sq
        · cases e
  · cases e
/-! ### text.upper(), find, count -/
def find3D (x : D) (as : List D) : Option D := match x, as with
  | .str a, [.str b, .int i] => some (.int (Txt.find3 a b i))
  | _, _ => none
def countTD (x : D) (as : List D) : Option D := match x, as with
  | .str a, [.str b] => some (.int (Txt.count a b))
  | _, _ => none
theorem mv_find3 {m : Md} : MtV m (fun x xs H Q => ∃ (a b : Str) (i : Int), x = .str a ∧ xs = [.str b, .int i] ∧ Q (.int (Txt.find3 a b i)) H) find3D := fun x vs dx d ds H Q rx rs e k => by
  unfold find3D at e
  split at e
  · obtain ⟨v, w, rfl, rv, rw'⟩ := two_of rs
    cases rx; cases rv; cases rw'; cases e
    exact ⟨_, _, _, rfl, rfl, k _ H Grow.rfl (.int _)⟩
  · cases e
theorem mv_countT {m : Md} : MtV m (fun x xs H Q => ∃ a b, x = .str a ∧ xs = [.str b] ∧ Q (.int (Txt.count a b)) H) countTD := fun x vs dx d ds H Q rx rs e k => by
  unfold countTD at e
  split at e
  · obtain ⟨v, rfl, rv⟩ := one_of rs
    cases rx; cases rv; cases e
    exact ⟨_, _, rfl, rfl, k _ H Grow.rfl (.int _)⟩
  · cases e
/-! ### text.split(sep): a new list -/
def MtVO (m : Md) (r : V → List V → Hp → VK → Prop) (g : D → List D → Option (List D)) : Prop :=
  ∀ (x : V) (vs : List V) (dx : D) (d ds : List D) (H : Hp) (Q : VK), Rep m H x dx → RepL m H vs ds → g dx ds = some d → (∀ p ws H', Grow H H' → H p = none → H' p = some (.lst ws) → RepL m H' ws d → Q (.ref p) H') → r x vs H Q
def mtVO (T : String) (g : D → List D → Option (List D)) (fo : M D) (fa : M (List D)) : M (List D) := bindM (tyM T fo) fun x => bindM fa fun ds => liftM (g x ds)
def splitO (x : D) (as : List D) : Option (List D) := match x, as with
  | .str a, [.str b] => if (b.length == 0) = false ∧ a.length + 2 ≤ sizeLine then some ((Txt.split a b).map D.str) else none
  | _, _ => none
theorem rep_strs {m : Md} {H : Hp} : ∀ ys : List Str, RepL m H (ys.map V.str) (ys.map D.str)
  | [] => .nil
  | y :: ys => .cons (.str y) (rep_strs ys)
theorem mo_split {m : Md} : MtVO m (fun x xs H Q => ∃ a b, x = .str a ∧ xs = [.str b] ∧ (b.length == 0) = false ∧ a.length + 2 ≤ sizeLine ∧ rNewStrs (Txt.split a b) H Q) splitO := fun x vs dx d ds H Q rx rs e k => by
  unfold splitO at e
  split at e
  · obtain ⟨v, rfl, rv⟩ := one_of rs
    cases rx; cases rv
    split at e
    · rename_i c
      cases e
      exact ⟨_, _, rfl, rfl, c.1, c.2, fun p hp => k p _ _ (Grow.new hp) hp upd_same (rep_strs _)⟩
    · cases e
  · cases e
section
variable {X : Cx} {G : Gh} {W : WX} {e : Expr} {es : List Expr} {pos : Pos}
theorem mtVO_run {T : String} {r : V → List V → Hp → VK → Prop} {g : D → List D → Option (List D)} {to : TE} {t : TA} {fo : M D} {fa : M (List D)} (hK : G.m.K = X.K) (hr : MtVO G.m r g) (io : ∀ σ H Q, dT G W fo σ H Q → to σ H Q) (ia : ∀ σ H Q, aT G W fa σ H Q → t σ H Q) {σ : L2.St} {H : Hp} {Q : VK} (h : oT G W (mtVO T g fo fa) σ H Q) : tBM X.K T r to t σ H Q := by
  obtain ⟨ρ, k, q⟩ := h
  refine io _ _ _ ⟨ρ, k, q.bind.bind.mono fun d ρ1 H1 _ s1 k1 q1 v rv => ?_⟩
  by_cases c : tyD T d = true
  · rw [if_pos c] at q1
    refine ⟨by rw [← hK]; exact tyD_ok rv c, ia _ _ _ ⟨ρ1, k1, (q1 H1 Stable.rfl k1).bind.mono fun ds ρ2 H2 _ s2 k2 q2 vs rs => ?_⟩⟩
    obtain ⟨z, e, q3⟩ := q2.lift k2
    exact hr v vs d z ds H2 Q (rv.st s2) rs e fun p ws H3 g3 hp h3 r3 => q3 H3 g3.stable (k2.grow g3) p ws h3 r3 (k2.fresh hp)
  · rw [if_neg c] at q1; exact q1.elim
theorem do_bm {o : Expr} {name : Str} {apos : Pos} {T id : String} {r : V → List V → Hp → VK → Prop} {g : D → List D → Option (List D)} {fo : M D} {fa : M (List D)} (hK : G.m = ⟨X.K, X.mg, X.w⟩) (pa : PlainAttrs T) (slot : Slot T name id) (hty : typeOf (.builtin id) = pure (.type "method_descriptor")) (hm : MtR X id r) (hr : MtVO G.m r g) (ho : DE X G W o fo) (ha : DA X G W (e :: es) fa)
    (hbase : attributeBase o name X.env (eval o X.env) = eval o X.env := by rfl)
    (hfew : ((backTo pos (starEach (e :: es) X.env)).all (fun x => !x.1) && (backToKw pos (keywordEach [] X.env)).all (fun x => x.1.isSome)
      && decide ((e :: es).length + ([] : List Keyword).length + (if ([] : List Keyword).isEmpty then 0 else 1) < 30)) = true := by rfl)
    (hline : (apos.endLine == pos.line) = true := by rfl) (hs : starEach (e :: es) X.env = (false, eval e X.env) :: starEach es X.env := by rfl) (hplain : (backTo pos (starEach es X.env)).any (·.1) = false := by rfl) :
    DO X G W (.Call (.Attribute o name apos) (e :: es) [] pos) (mtVO T g fo fa) :=
  pe_imp (pe_bm pa slot hty hm ho ha hbase hfew hline hs hplain) fun σ H Q h => mtVO_run (by rw [hK]) hr (fun _ _ _ z => z) (fun _ _ _ z => z) h
end
end DL
end
section
/-! max of a pair of whole numbers -/
namespace DL
open PySem PySem.Spec L2 PySem.SeqAt
open PyProof.Rows hiding St
def maxTD : List D → Option D
  | [.tup [.int i, .int j]] => some (.int (if j > i then j else i))
  | _ => none
def rMaxT (K : PySem.W.Frag) : List V → Hp → VK → Prop := fun vs H Q => ∃ (a : Addr) (i j : Int), vs = [V.ref a] ∧ SqT K H a [.int i, .int j] ∧ Q (.int (if j > i then j else i)) H
theorem cr_maxT {X : Cx} (hc : X.calm = true) (hv : X.A.units + 130 < cLine) : CallR X (.builtin "max") (rMaxT X.K) := by
  intro pins s σ H vs us Q I r h
  obtain ⟨a, i, j, rfl, hs, q⟩ := h
  obtain ⟨its, rv, hl, hz⟩ := I.tuple hs
  rw [Vals.ref1 r]
  obtain ⟨t, u, rfl⟩ : ∃ t u, its = [Value.int i t, Value.int j u] := by
    cases rv with
    | cons r1 rv =>
      cases rv with
      | cons r2 rv =>
        cases rv
        obtain ⟨t, rfl⟩ := r1
        obtain ⟨u, rfl⟩ := r2
        exact ⟨t, u, rfl⟩
  have ra : ReadsAll s.heap [Value.int i t, Value.int j u] [PyData.int i, PyData.int j] ([] ++ ([] ++ [])) := .cons (.int i t) (.cons (.int j u) .nil)
  have mx : PySem.W.maxD (.int i) [.int j] = .int (if j > i then j else i) := by
    have := PySem.W.maxD_ints i [j]
    rw [show [j].map PyData.int = [PyData.int j] from rfl] at this
    rw [this]
    show PyData.int (max i j) = _
    congr 1
    split <;> omega
  refine PySem.W.max_tuple_data (A := X.A) (I.ok.hd hc) (let ⟨o, g1, g2, n, g3⟩ := hl; ⟨o, g1, g2, n, g3⟩) (by simpa using ra) ⟨?_, ?_⟩ ?_ fun k v h' tk bs h1 h2 h3 => ?_
  · intro x hx y hy
    simp only [List.mem_cons, List.not_mem_nil, or_false] at hx hy
    rcases hx with rfl | rfl <;> rcases hy with rfl | rfl <;> simp [PySem.W.alike]
  · intro x hx
    simp only [List.mem_cons, List.not_mem_nil, or_false] at hx
    rcases hx with rfl | rfl <;> simp
  · simp [PyData.depthAll, PyData.depth]; omega
  · rw [mx] at h2
    cases h2
    exact ⟨.int _, H, I.kept h3, ⟨_, rfl⟩, q⟩
theorem cd_maxT {m : Md} : CallD m (rMaxT m.K) maxTD := fun vs ds d H Q r e k => by
  unfold maxTD at e
  split at e
  · obtain ⟨v, rfl, rv⟩ := one_of r
    cases e
    cases rv with
    | tup q rl =>
      cases rl with
      | cons a rl =>
        cases rl with
        | cons b rl =>
          cases rl; cases a; cases b
          exact ⟨_, _, _, rfl, q, k _ H Grow.rfl (.int _)⟩
  · cases e
end DL
end
section
/-! text.replace(old, new, n), old and new written: where a token is out, they are two objects -/
namespace DL
open PySem PySem.Spec L2
open PyProof.Rows hiding St
section
variable {X : Cx} {e o en : Expr} {es : List Expr} {pos : Pos} {te to tn : TE} {ta : TA}
/-! statements, a token out -/
end
end DL
end
section
/-! the data layer where a token is out -/
namespace DL
open PySem PySem.Spec L2
open PyProof.Rows hiding St
section
variable {X : Cx} {G : Gh} {W : WX} {rm : RM} {e o en : Expr} {es : List Expr} {pos : Pos} {st : Stmt} {rest : List Stmt}
/-! statements -/
end
end DL
end
section
/-! methods of data without arguments; text.upper() -/
namespace DL
open PySem PySem.Spec L2
open PyProof.Rows hiding St
section
variable {X : Cx} {G : Gh} {W : WX} {e : Expr} {pos : Pos}
end
end DL
end
section
/-! text * n -/
namespace DL
open PySem PySem.Spec L2
open PyProof.Rows hiding St
theorem mulOk_small {x : Str} {n : Int} (h0 : 1 ≤ n) (hn : n ≤ 1000) (hx : x.length ≤ 1000) : MulOk x n := by
  refine ⟨?_, fun _ _ => ?_, fun _ _ => ?_⟩
  · rw [decide_eq_false (by omega), decide_eq_false (by omega)]; rfl
  · have : (2 ^ 63 - 1) / n ≥ 1000 := by
      rw [ge_iff_le, Int.le_ediv_iff_mul_le (by omega)]
      omega
    omega
  · have : x.length * n.toNat ≤ 1000 * 1000 := Nat.mul_le_mul hx (by omega)
    unfold Builtin.Str.tooLong
    exact decide_eq_false (by rw [sizeLine_eq]; omega)
def mulTD (x y : D) : Option D := match x, y with
  | .str z, .int n => if 1 ≤ n ∧ n ≤ 1000 ∧ z.length ≤ 1000 then some (.str (Txt.mul z n)) else none
  | _, _ => none
def rMulT : R2 := fun x y H Q => ∃ (z : Str) (n : Int), x = .str z ∧ y = .int n ∧ (1 ≤ n ∧ n ≤ 1000 ∧ z.length ≤ 1000) ∧ Q (.str (Txt.mul z n)) H
theorem op_mulT {X : Cx} : OpR X (binaryOp .Mult) rMulT := by
  intro pins s σ H x y v u Q I rx ry h
  obtain ⟨z, n, rfl, rfl, c, q⟩ := h
  obtain ⟨t, rfl⟩ := rx
  obtain ⟨t', rfl⟩ := ry
  exact PySem.SB.mul (mulOk_small c.1 c.2.1 c.2.2) fun t'' k => ⟨.str _, H, I.tok _, ⟨_, rfl⟩, q⟩
theorem opd_mulT {m : Md} : OpD m rMulT mulTD := fun x y dx dy d H Q rx ry e k => by
  unfold mulTD at e
  split at e
  · cases rx; cases ry
    split at e
    · rename_i c
      cases e
      exact ⟨_, _, rfl, rfl, c, k _ H Grow.rfl (.str _)⟩
    · cases e
  · cases e
end DL
end
section
/-! slices as own lists; min with default; except without a name -/
namespace DL
open PySem PySem.Spec L2 PySem.SeqAt
open PyProof.Rows hiding St
/-! ### xs[a:b], a list of the def's own -/
section
variable {X : Cx} {G : Gh} {W : WX} {rm : RM} {e : Expr} {lo hi : Option Expr} {pos p2 : PySem.Pos}
/-! ### min(xs, default=d) -/
end
section
variable {prog : Program} {w : World} {A : Around} {E : Value → Shared → Prop} {s : Shared}
end
section
variable {X : Cx} {G : Gh} {W : WX} {rm : RM} {e : Expr} {es : List Expr} {ks : List Keyword} {p pos : PySem.Pos}
end
/-! ### except X, without a name -/
section
variable {X : Cx} {G : Gh} {W : WX} {rm : RM} {tab : ExTab}
end
end DL
end
section
/-! an exception leaves from inside a list comprehension -/
namespace PySem
section
variable {M : Model} {A : Around} {E : Value → Shared → Prop} {s : Shared} {env : Env}
end
end PySem
namespace L2
open PySem PySem.Spec PyProof.Rows
section
variable {X : Cx}
end
end L2
end
section
/-! the rule: a list comprehension whose items may raise (follows HandS.Comp's lc_core; the block's context takes exceptions) -/
namespace L2
open PySem PySem.Spec PyProof.Rows
section
variable {X : Cx}
end
end L2
end
section
/-! list comprehensions whose items may raise, as data -/
namespace DL
open PySem PySem.Spec L2
open PyProof.Rows hiding St
section
variable {X : Cx} {G : Gh} {W : WX}
end
end DL
end
section
/-! a call without arguments -/
namespace DL
open PySem PySem.Spec L2
open PyProof.Rows hiding St
section
variable {X : Cx} {G : Gh} {W : WX} {pos p : Pos} {x : Str} {j k : Nat} {md : List Bool} {f : Fn}
end
end DL
end
section
/-! printed by mkdn.py: the rules that hang on Takes and CX once more, over L2N -/
namespace DLN
open PySem PySem.Spec L2 DL
open PyProof.Rows hiding St
-- DLay5
section
theorem fn_ok {P : Program} {w : World} {K : PySem.W.Frag} {mg : Str → Option Value} {base : Heap} {k : Nat} {f : Addr} {fd : FuncData} {N ps : List Str} {x qual : Str} {params : Arguments} {body : List Stmt} {scope : Scope} {md : List Bool} {rm : RM} {bm : MS}
    (F : FunD K x qual params body scope [] [] f fd) (S : FnScope N ps scope) (hmd : md.length = ps.length)
    (D : ∀ (cdv : Value) (A : Around) (outer : List PySem.Env) (s : Shared) (H : Hp) (E : XK) (H0 : Hp) (pr : List (Nat × Addr)), (∀ i, md.getD i false = false → pfree ⟨⟨K, mg, w⟩, H0, pr, none⟩ i) → Room k (A.deeper (envOfC qual scope s.heap.objs.size f cdv)) →
      L2N.Takes (cxOf (L2N.CX P w) P w K mg base N qual scope f cdv A outer s H E) (fun cls d _ H => E cls d H) → DSs (cxOf (L2N.CX P w) P w K mg base N qual scope f cdv A outer s H E) ⟨⟨K, mg, w⟩, H0, pr, none⟩ (fun cls d _ H => E cls d H) rm body bm) :
    FnOk P w K mg base (L2N.CX P w) (k + 1) f fd ps (spD ⟨K, mg, w⟩ none md rm (fnM rm.b N.length bm)) := by
  refine F.ok S (fun vs H Q E h => ?_) (fun cdv A outer s H vs Q E hr h => ?_)
  · obtain ⟨ρ, h1, h2, _⟩ := h
    rw [h2.len, ← hmd, ← h1, List.length_map]
  · obtain ⟨ρ, h1, h2, h3⟩ := h
    exact ⟨_, D cdv A outer s H E H (prOf vs ρ 0) (fun i hi => pfree_of (m := ⟨K, mg, w⟩) (ex := none) (H := H) h1 i hi) hr (L2N.takes_of rfl rfl rfl rfl), body_ok (fun _ _ _ _ z => z) h2 h3⟩
end
-- DLay6
section
section
variable {X : Cx} {G : Gh} {W : WX} {e : Expr} {es : List Expr} {pos : Pos}
variable {CX : CXT} {kk : Nat} {fA : Addr} {fd : FuncData} {ps : List Str} {md : List Bool} {f : Fn} {x : Str} {p : Pos}
theorem de_call {fa : M (List Ag)} (hex : G.ex = none) (hm0 : G.m = ⟨X.K, X.mg, X.w⟩) (tk : L2N.Takes X W) (F : FnOk X.prog X.w X.K X.mg X.base (L2N.CX X.prog X.w) kk fA fd ps (spD ⟨X.K, X.mg, X.w⟩ none md .f f)) (hr : Room kk X.A) (hg : Gl X x) (hm : X.mg x = some (.ref fA)) (hk : PySem.W.keepIn X.K (.ref fA) = true) (hb : Binds X.K fd ps [])
    (ha : DG X G W (e :: es) fa) (hdb : (x == ("__debug__" : Str)) = false := by decide) (he : starEach (e :: es) X.env = (false, eval e X.env) :: starEach es X.env := by rfl) (hpl : (backTo pos (starEach es X.env)).any (·.1) = false := by rfl) :
    DE X G W (.Call (.Name x p) (e :: es) [] pos) (callM f (mdM md fa)) :=
  pe_imp (pe_callS F hr hg hm hk hb (fun σ => L2N.passAt tk σ) ha hdb he hpl) fun σ H Q ⟨ρ, k, q⟩ => ⟨ρ, k, (mdM_run q).mono fun ags ρ1 H1 _ s1 k1 q1 vs rs fs => by
    rw [← hm0]
    exact call_run hex k1 rs fs (fun ρ' e => by rw [e]; exact q1.1) q1.2 fun d ρ' v H' _ _ _ rf h => h v rf⟩
end
end
-- DLay7
section
theorem takes0 {X : Cx} : L2N.Takes X W0 := fun u s' ⟨_, _, _, _, _, _, _, _, _, _, _, _, _, _, _, _, w⟩ => w.elim

section
variable {X : Cx} {G : Gh} {W : WX} {rm : RM} {pos : Pos}
theorem ds_raise {x z : Str} {j : Nat} {C : Addr} {p p2 pos2 : Pos} (hK : G.m = ⟨X.K, X.mg, X.w⟩) (hc : X.calm = true) (tk : L2N.Takes X W) (q : PySem.W.excIn X.K C He.veBase "ValueError.__new__" = true) (gC : X.mg x = some (.ref C)) (kC : PySem.W.keepIn X.K (.ref C) = true) (r : Raises X (.ref C)) (hg : Gl X x) (hdb : (x == ("__debug__" : Str)) = false := by decide) :
    DS X G W rm (.Raise (some (.Call (.Name x p) [.Constant (.str z) j p2] [] pos)) none pos2) (raiseM x) :=
  ps_imp (L2N.ps_raise hc tk (L2N.pmk_own PySem.F.excBase_ValueError q gC kC r hg hdb)) fun E σ H ⟨ρ, k, h⟩ => h σ C H (by rw [hK]; exact gC) Stable.rfl k
end
end
-- DLay12
section
structure DFn (P : Program) (w : World) (K : PySem.W.Frag) (mg : Str → Option Value) (base : Heap) (x : Str) (k : Nat) (md : List Bool) (rm : RM) (f : Fn) : Prop where
  ex : ∃ fA fd ps, mg x = some (.ref fA) ∧ PySem.W.keepIn K (.ref fA) = true ∧ Binds K fd ps [] ∧ FnOk P w K mg base (L2N.CX P w) k fA fd ps (spD ⟨K, mg, w⟩ none md rm f)
theorem DFn.mono {P : Program} {w : World} {K : PySem.W.Frag} {mg : Str → Option Value} {base : Heap} {x : Str} {j k : Nat} {md : List Bool} {rm : RM} {f : Fn} (h : DFn P w K mg base x j md rm f) (hj : j ≤ k) : DFn P w K mg base x k md rm f := by
  obtain ⟨fA, fd, ps, h1, h2, h3, h4⟩ := h.ex
  exact ⟨fA, fd, ps, h1, h2, h3, h4.mono hj⟩
theorem dfn_stuck {P : Program} {w : World} {K : PySem.W.Frag} {mg : Str → Option Value} {base : Heap} {x : Str} {st : Stmt} {fA : Addr} {fd : FuncData} {k : Nat} {ps : List Str} {md : List Bool} {rm : RM} (Dn : DefIn K mg x st fA fd) (hb : BindsF x st ps) : DFn P w K mg base x k md rm fun _ => .stuck := by
  obtain ⟨h1, F⟩ := Dn
  exact ⟨fA, fd, ps, h1, F.kp, F.bindsN hb, fn_stuck⟩
theorem dfn_ok {P : Program} {w : World} {K : PySem.W.Frag} {mg : Str → Option Value} {base : Heap} {x : Str} {st : Stmt} {fA : Addr} {fd : FuncData} {k : Nat} {N ps : List Str} {md : List Bool} {rm : RM} {bm : MS} (Dn : DefIn K mg x st fA fd) (S : FnScope N ps (defScope st)) (hmd : md.length = ps.length) (hb : BindsF x st ps)
    (D : ∀ (cdv : Value) (A : Around) (outer : List PySem.Env) (s : Shared) (H : Hp) (E : XK) (H0 : Hp) (pr : List (Nat × Addr)), (∀ i, md.getD i false = false → pfree ⟨⟨K, mg, w⟩, H0, pr, none⟩ i) → Room k (A.deeper (envOfC x (defScope st) s.heap.objs.size fA cdv)) →
      L2N.Takes (cxOf (L2N.CX P w) P w K mg base N x (defScope st) fA cdv A outer s H E) (fun cls d _ H => E cls d H) → DSs (cxOf (L2N.CX P w) P w K mg base N x (defScope st) fA cdv A outer s H E) ⟨⟨K, mg, w⟩, H0, pr, none⟩ (fun cls d _ H => E cls d H) rm (defBody st) bm) :
    DFn P w K mg base x (k + 1) md rm (fnM rm.b N.length bm) := by
  obtain ⟨h1, F⟩ := Dn
  exact ⟨fA, fd, ps, h1, F.kp, F.bindsN hb, fn_ok F S hmd D⟩
section
variable {X : Cx} {G : Gh} {W : WX} {e : Expr} {es : List Expr} {pos p : Pos} {x : Str} {j k : Nat} {md : List Bool} {f : Fn} {fa : M (List Ag)}
theorem de_calls (hex : G.ex = none) (hm0 : G.m = ⟨X.K, X.mg, X.w⟩) (tk : L2N.Takes X W) (C : DFn X.prog X.w X.K X.mg X.base x j md .f f) (hr : Room k X.A) (hk : j ≤ k) (hg : Gl X x) (ha : DG X G W (e :: es) fa) (hdb : (x == ("__debug__" : Str)) = false := by decide) (he : starEach (e :: es) X.env = (false, eval e X.env) :: starEach es X.env := by rfl) (hpl : (backTo pos (starEach es X.env)).any (·.1) = false := by rfl) :
    DE X G W (.Call (.Name x p) (e :: es) [] pos) (callM f (mdM md fa)) := by
  obtain ⟨fA, fd, ps, h1, h2, h3, h4⟩ := C.ex
  exact de_call hex hm0 tk h4 (hr.mono hk) hg h1 h2 h3 ha hdb he hpl
theorem ds_raises {rm : RM} {z : Str} {j : Nat} {p2 pos2 : Pos} (hK : G.m = ⟨X.K, X.mg, X.w⟩) (hc : X.calm = true) (tk : L2N.Takes X W) (T : ExcIn X.K X.mg x) (hg : Gl X x) (hdb : (x == ("__debug__" : Str)) = false := by decide) :
    DS X G W rm (.Raise (some (.Call (.Name x p) [.Constant (.str z) j p2] [] pos)) none pos2) (raiseM x) := by
  obtain ⟨C, h1, h2, h3, h4, h5⟩ := T.ex
  exact ds_raise hK hc tk h2 h1 h3 (raises_own h4 h5) hg hdb
end
end
-- DLay16
section
section
variable {X : Cx} {G : Gh} {W : WX} {o e : Expr} {es : List Expr} {pos apos : Pos} {c f : Str} {fs : List Str}
variable {CX : CXT} {kk : Nat} {fA C : Addr} {fd : FuncData} {ps : List Str} {sp : Sp} {E : L2.St → XK} {nm : Str} {to : TE} {ta : TA} {pl : Sem Bool}
end
structure DMe (P : Program) (w : World) (K : PySem.W.Frag) (mg : Str → Option Value) (base : Heap) (c nm : Str) (k : Nat) (md : List Bool) (f : Fn) : Prop where
  ex : ∃ C fA fd ps, mg c = some (.ref C) ∧ Cls K C ∧ Meth K C nm fA ∧ Binds K fd ps [] ∧ FnOk P w K mg base (L2N.CX P w) k fA fd ps (spD ⟨K, mg, w⟩ none md .f f)
theorem DMe.mono {P : Program} {w : World} {K : PySem.W.Frag} {mg : Str → Option Value} {base : Heap} {c nm : Str} {j k : Nat} {md : List Bool} {f : Fn} (h : DMe P w K mg base c nm j md f) (hj : j ≤ k) : DMe P w K mg base c nm k md f := by
  obtain ⟨C, fA, fd, ps, h1, h2, h3, h4, h5⟩ := h.ex
  exact ⟨C, fA, fd, ps, h1, h2, h3, h4, h5.mono hj⟩
section
variable {X : Cx} {G : Gh} {W : WX} {o e : Expr} {es : List Expr} {pos apos : Pos} {c nm : Str} {j k : Nat} {md : List Bool} {f : Fn} {fo : M D} {fa : M (List Ag)} {pl : Sem Bool}
end
end
-- DLay27
section
section
variable {X : Cx} {CX : CXT} {k i : Nat} {f C : Addr} {fd : FuncData} {ps : List Str} {sp : Sp} {E : L2.St → XK} {x m : Str} {p pos apos : Pos} {e o : Expr} {es : List Expr} {ta : TE} {t : TA}
end
structure DMk (P : Program) (w : World) (K : PySem.W.Frag) (mg : Str → Option Value) (base : Heap) (c : Str) (k n : Nat) (fI : List D → Res D) : Prop where
  ex : ∃ C fA fd ps, mg c = some (.ref C) ∧ Mk K C fA ∧ Binds K fd ps [] ∧ FnOk P w K mg base (L2N.CX P w) k fA fd ps (spI ⟨K, mg, w⟩ c n fI)
end
-- DLay28
section
section
variable {fa : List He.Fa} {fn : List He.DefD} {K : PySem.W.Frag} {h : Heap} {mg : Str → Option Value}
end
section
variable {P : Program} {w : World} {K : PySem.W.Frag} {mg : Str → Option Value} {base : Heap} {c nm q : Str} {st : Stmt} {fA : Addr} {fd : FuncData} {k n : Nat} {N ps : List Str} {md : List Bool} {rm : RM} {bm : MS}
end
end
-- DRet
section
section
variable {X : Cx} {G : Gh} {W : WX} {e a b : Expr} {es : List Expr} {pos p : Pos} {rm : RM} {x : Str} {j k : Nat} {md : List Bool} {f : Fn} {fa : M (List Ag)}
end
end
-- DTup
section
section
variable {X : Cx} {G : Gh} {W : WX} {e a b : Expr} {es : List Expr} {pos p : Pos} {rm : RM} {x : Str} {j k : Nat} {md : List Bool} {f : Fn} {fa : M (List Ag)}
end
end
-- DCall0
section
section
variable {X : Cx} {G : Gh} {W : WX} {pos p : Pos} {x : Str} {j k : Nat} {md : List Bool} {f : Fn}
end
end
end DLN
end
section
/-! try .. except X: an except suite that raises out of the try (HandS.SuiteRaise); the body stands over L2N -/
namespace DL
open PySem PySem.Spec L2
open PyProof.Rows hiding St
section
variable {X : Cx} {G : Gh} {W : WX} {rm : RM} {tab : ExTab} {e : Expr} {pos : PySem.Pos}
theorem ds_raiseH {x z : Str} {j : Nat} {C : Addr} {p p2 pos2 : PySem.Pos} (hK : G.m = ⟨X.K, X.mg, X.w⟩) (hc : L2H.HotC X) (tk : Takes X W) (q : PySem.W.excIn X.K C He.veBase "ValueError.__new__" = true) (gC : X.mg x = some (.ref C)) (kC : PySem.W.keepIn X.K (.ref C) = true) (r : Raises X (.ref C)) (hg : Gl X x) (hdb : (x == ("__debug__" : Str)) = false := by decide) :
    DS X G W rm (.Raise (some (.Call (.Name x p) [.Constant (.str z) j p2] [] pos)) none pos2) (raiseM x) :=
  ps_imp (L2H.ps_raiseH hc tk (L2N.pmk_own PySem.F.excBase_ValueError q gC kC r hg hdb)) fun E σ H ⟨ρ, k, h⟩ => h σ C H (by rw [hK]; exact gC) Stable.rfl k
theorem ds_raisesH {x z : Str} {j : Nat} {p p2 pos2 : PySem.Pos} (hK : G.m = ⟨X.K, X.mg, X.w⟩) (hc : L2H.HotC X) (tk : Takes X W) (T : ExcIn X.K X.mg x) (hg : Gl X x) (hdb : (x == ("__debug__" : Str)) = false := by decide) :
    DS X G W rm (.Raise (some (.Call (.Name x p) [.Constant (.str z) j p2] [] pos)) none pos2) (raiseM x) := by
  obtain ⟨C, h1, h2, h3, h4, h5⟩ := T.ex
  exact ds_raiseH hK hc tk h2 h1 h3 (raises_own h4 h5) hg hdb
def tryNX (sub : Str → Option Bool) (body suite : MS) : MS := fun ρ => match body ρ with
  | .exc c ρ1 => match sub c with
    | some true => suite ρ1
    | some false => .exc c ρ1
    | none => .stuck
  | r => r
theorem ds_try0X {x : Str} {body suite : List Stmt} {b0 : Stmt} {np pos pos' : PySem.Pos} {bm sm : MS} (hGK : G.m = ⟨X.K, X.mg, X.w⟩) (T : Exs X.K X.mg tab) (hxt : (tab.lookup x).isSome = true) (hg : Gl X x) (hdb : (x == ("__debug__" : Str)) = false)
    (hs : X.stack = X.env :: X.outer) (hf : X.env.frame = some X.env.locals) (hpa : ∀ hd : Option Value, PassesOwnAt (model X.prog X.w) (X.A.mark hd) X.A X.env X.xe) (tk : Takes X W)
    (hb : ∀ (W' : WX) (pn : List (Addr × Obj)) (xe : Value → Shared → Prop), L2N.Takes (X.tr pn xe) W' → PassesOwn (model X.prog X.w) X.A X.env xe → DSs (X.tr pn xe) G W' rm body bm)
    (hsu : ∀ (a : Addr) (oe : Obj) (pn : List (Addr × Obj)), Takes (L2H.suiteX X a ((a, oe) :: pn)) W → L2H.HotC (L2H.suiteX X a ((a, oe) :: pn)) → DSs (L2H.suiteX X a ((a, oe) :: pn)) G W rm (b0 :: suite) sm) :
    DS X G W rm (.Try body [.ExceptHandler (some (.Name x np)) none (b0 :: suite) pos'] [] [] pos) (tryNX (subT tab x) bm sm) := by
  obtain ⟨supx, ex⟩ := Option.isSome_iff_exists.mp hxt
  obtain ⟨Cx0, gx, _⟩ := T.cls x supx ex
  refine ps_imp (L2H.ps_try_onlyX (c := .ref Cx0) (tb := fun W' => sT G W' rm bm) (ts := fun a cls d E σ H => ∃ (C : Addr) (c : Str), cls = .ref C ∧ d = none ∧ X.mg c = some (.ref C) ∧ subT tab x c = some true ∧ sT G W rm sm E σ H) hs hf ⟨hg, hdb, .inl gx⟩ hpa tk (fun W' pn xe t1 _ po => hb W' pn xe t1 po)
    (fun a oe cls d pn hz hv tkS hot => ⟨fun pins s σ H E I ⟨C, c, e1, e2, e3, e4, q⟩ => (hsu a oe pn tkS hot).run pins s σ H E I q⟩)) fun E σ H ⟨ρ, k, q⟩ => ?_
  refine ⟨ρ, k, ?_⟩
  unfold tryNX at q
  cases e : bm ρ with
  | ok fl ρ1 => rw [e] at q; cases fl <;> exact q
  | stuck => rw [e] at q; exact q
  | exc c ρ1 =>
    simp only [e] at q
    intro σ1 C H1 eC s1 k1
    have eC' : X.mg c = some (.ref C) := by rw [hGK] at eC; exact eC
    cases e2 : subT tab x c with
    | none => simp only [e2] at q; exact q.elim
    | some b =>
      obtain ⟨sup, e3, e4⟩ := subT_inv e2
      obtain ⟨C', h1, _, _, _, _, _, h2, _⟩ := T.cls c sup e3
      rw [eC'] at h1; cases h1
      obtain ⟨Ct, h3, _, h4⟩ := h2 x supx ex
      rw [gx] at h3; cases h3
      refine ⟨b, by rw [h4, e4], fun hb a ha => ?_, fun hb => ?_⟩
      · subst hb
        simp only [e2] at q
        refine ⟨C, c, rfl, rfl, eC', e2, ρ1, k1, ?_⟩
        show postS G W rm H1 (sm ρ1) _
        cases e3 : sm ρ1 with
        | ok fl ρ2 =>
          rw [e3] at q
          cases fl with
          | nx => exact fun σ2 H2 s2 k2 => q σ2 H2 (s1.trans s2) k2
          | brk => exact fun σ2 H2 s2 k2 => q σ2 H2 (s1.trans s2) k2
          | ct => exact fun σ2 H2 s2 k2 => q σ2 H2 (s1.trans s2) k2
          | ret d => exact fun v σ2 H2 s2 k2 r => q v σ2 H2 (s1.trans s2) k2 r
        | exc c2 ρ2 =>
          rw [e3] at q
          exact fun σ2 C2 H2 eC2 s2 k2 => q σ2 C2 H2 eC2 (s1.trans s2) k2
        | stuck => rw [e3] at q; exact q.elim
      · subst hb
        simp only [e2] at q
        exact q σ1 C H1 eC s1 k1
end
end DL
end
section
namespace DL
open PySem PySem.Spec L2
open PyProof.Rows hiding St
namespace Mi
def cell_text : Fn := fnM false 1 (retM (op2 addD (op2 addD (callD strD (consM (op2 ixX (getM 0) (pureM (.int 0))) (pureM []))) (pureM (.str "."))) (callD strD (consM (op2 ixX (getM 0) (pureM (.int 1))) (pureM [])))))
def number_in : Fn := fnM false 4 (seqM (setM 1 (iteM (boolM (op2 eqD (slM (getM 0) (pureM none) (partM (pureM (.int 1)))) (pureM (.str "-")))) (slM (getM 0) (partM (pureM (.int 1))) (pureM none)) (getM 0))) (seqM (ifM (orM (notM (boolM (chainM leA leA (pureM (.int 1)) (callD lenG (consM (getM 1) (pureM []))) (pureM (.int 2))))) (notM (boolM (callD allD (consM (lstM (compO (itemsGM (getM 1)) (tgN 3) (pureM true) (op2 inX (getM 3) (pureM (.str "0123456789"))) [3])) (pureM [])))))) (raiseM "BadText") (skipM)) (seqM (setM 2 (callD intTD (consM (getM 1) (pureM [])))) (seqM (ifM (boolM (op2 eqD (slM (getM 0) (pureM none) (partM (pureM (.int 1)))) (pureM (.str "-")))) (setM 2 (op2 subD (pureM (.int 0)) (getM 2))) (skipM)) (seqM (ifM (boolM (op2 neD (callD strD (consM (getM 2) (pureM []))) (getM 0))) (raiseM "BadText") (skipM)) (retM (getM 2)))))))
def cell_in : Fn := fnM false 2 (seqM (setM 1 (lstM (mtVO "str" splitO (getM 0) (consM (pureM (.str ".")) (pureM []))))) (seqM (ifM (boolM (op2 neD (callD lenG (consM (getM 1) (pureM []))) (pureM (.int 2)))) (raiseM "BadText") (skipM)) (retM (tupM (consM (callM Mi.number_in (mdM [false] (consA (op2 ixX (getM 1) (pureM (.int 0))) (pureM [])))) (consM (callM Mi.number_in (mdM [false] (consA (op2 ixX (getM 1) (pureM (.int 1))) (pureM [])))) (pureM [])))))))
def law_cell_text : Fn := fnM false 1 (retM (op2 addD (op2 addD (callD strD (consM (op2 ixX (getM 0) (pureM (.int 0))) (pureM []))) (pureM (.str "."))) (callD strD (consM (op2 ixX (getM 0) (pureM (.int 1))) (pureM [])))))
def law_line_text : Fn := fnM false 4 (seqM (setM 1 (pureM (.str ""))) (seqM (forD (itemsGM (getM 0)) (tgN 2) (seqM (setM 3 (op2 ixX (lstM (sizeM (consM (pureM (.str " ")) (consM (pureM (.str "")) (pureM []))))) (callD intCD (consM (op2 eqD (getM 1) (pureM (.str ""))) (pureM []))))) (setM 1 (op2 addD (op2 addD (op2 addD (op2 addD (getM 1) (getM 3)) (callM Mi.law_cell_text (mdM [false] (consA (op2 ixX (getM 2) (pureM (.int 0))) (pureM []))))) (pureM (.str "-"))) (callM Mi.law_cell_text (mdM [false] (consA (op2 ixX (getM 2) (pureM (.int 1))) (pureM [])))))))) (retM (getM 1))))
def move_text : Fn := fnM false 1 (retM (op2 addD (op2 addD (callM Mi.cell_text (mdM [false] (consA (op2 ixX (getM 0) (pureM (.int 0))) (pureM [])))) (pureM (.str "-"))) (callM Mi.cell_text (mdM [false] (consA (op2 ixX (getM 0) (pureM (.int 1))) (pureM []))))))
def move_in : Fn := fnM false 3 (seqM (setM 1 (lstM (mtVO "str" splitO (getM 0) (consM (pureM (.str "-")) (pureM []))))) (seqM (ifM (boolM (op2 neD (callD lenG (consM (getM 1) (pureM []))) (pureM (.int 2)))) (raiseM "BadText") (skipM)) (seqM (setM 2 (tupM (consM (callM Mi.cell_in (mdM [false] (consA (op2 ixX (getM 1) (pureM (.int 0))) (pureM [])))) (consM (callM Mi.cell_in (mdM [false] (consA (op2 ixX (getM 1) (pureM (.int 1))) (pureM [])))) (pureM []))))) (seqM (ifM (boolM (op2 gtA (callD max2D (consM (callD maxTD (consM (op2 ixX (getM 2) (pureM (.int 0))) (pureM []))) (consM (callD maxTD (consM (op2 ixX (getM 2) (pureM (.int 1))) (pureM []))) (pureM [])))) (pureM (.int 4)))) (raiseM "BadText") (skipM)) (retM (getM 2))))))
def check_either2 : Fn := fnM false 1 (ifM (andM (notM (boolM (callM (Mi.is_tree 40) (mdM [false, false] (consA (getM 0) (consA (pureM (.str "won")) (pureM []))))))) (notM (boolM (callM (Mi.is_tree 40) (mdM [false, false] (consA (getM 0) (consA (pureM (.str "not")) (pureM [])))))))) (raiseM "BadPaper") (skipM))
def depth2 : Fn := fnM false 1 (seqM (dropM (callM Mi.check_either2 (mdM [false] (consA (getM 0) (pureM []))))) (retM (callM (Mi.depth_of 40) (mdM [false] (consA (getM 0) (pureM []))))))
def text_of : Nat → Fn
  | 0 => fun _ => .stuck
  | n + 1 => fnM false 3 (seqM (ifM (boolM (op2 eqD (op2 ixX (getM 0) (pureM (.int 0))) (pureM (.str "won")))) (retM (pureM (.str "!"))) (skipM)) (seqM (ifM (boolM (op2 eqD (op2 ixX (getM 0) (pureM (.int 0))) (pureM (.str "not")))) (retM (pureM (.str "?"))) (skipM)) (seqM (ifM (boolM (op2 eqD (op2 ixX (getM 0) (pureM (.int 0))) (pureM (.str "move")))) (retM (op2 addD (op2 addD (op2 addD (op2 addD (pureM (.str "(")) (callM Mi.move_text (mdM [false] (consA (op2 ixX (getM 0) (pureM (.int 1))) (pureM []))))) (pureM (.str " "))) (callM (Mi.text_of n) (mdM [false] (consA (op2 ixX (getM 0) (pureM (.int 2))) (pureM []))))) (pureM (.str ")")))) (skipM)) (retM (op2 addD (op2 addD (pureM (.str "[")) (mtV "str" joinD (pureM (.str "|")) (consM (lstM (compO (itemsGM (op2 ixX (getM 0) (pureM (.int 1)))) (tgU 2 (tgs1 (tgN 1) (tgs1 (tgN 2) (tgs0)))) (pureM true) (op2 addD (op2 addD (callM Mi.move_text (mdM [false] (consA (getM 1) (pureM [])))) (pureM (.str " "))) (callM (Mi.text_of n) (mdM [false] (consA (getM 2) (pureM []))))) [1, 2])) (pureM [])))) (pureM (.str "]")))))))
def tree_text : Fn := fnM false 1 (seqM (dropM (callM Mi.depth2 (mdM [false] (consA (getM 0) (pureM []))))) (retM (callM (Mi.text_of 16) (mdM [false] (consA (getM 0) (pureM []))))))
mutual
def row_from : Nat → Fn
  | 0 => fun _ => .stuck
  | n + 1 => fnM false 5 (seqM (setM 2 (mtV "str" find3D (getM 0) (consM (pureM (.str " ")) (consM (getM 1) (pureM []))))) (seqM (ifM (boolM (op2 ltA (getM 2) (pureM (.int 0)))) (raiseM "BadText") (skipM)) (seqM (asgM (callM (Mi.tree_from n) (mdM [false, false] (consA (getM 0) (consA (op2 addD (getM 2) (pureM (.int 1))) (pureM []))))) (tgU 2 (tgs1 (tgN 3) (tgs1 (tgN 4) (tgs0))))) (retM (tupM (consM (callM Mi.move_in (mdM [false] (consA (slM (getM 0) (partM (getM 1)) (partM (getM 2))) (pureM [])))) (consM (getM 3) (consM (getM 4) (pureM [])))))))))
def rows_from : Nat → Fn
  | 0 => fun _ => .stuck
  | n + 1 => fnM false 5 (seqM (asgM (callM (Mi.row_from n) (mdM [false, false] (consA (getM 0) (consA (getM 1) (pureM []))))) (tgU 3 (tgs1 (tgN 2) (tgs1 (tgN 3) (tgs1 (tgN 1) (tgs0)))))) (seqM (setOM 4 (sizeM (consM (tupM (consM (getM 2) (consM (getM 3) (pureM [])))) (pureM [])))) (seqM (whileM (boolM (op2 eqD (slM (getM 0) (partM (getM 1)) (partM (op2 addD (getM 1) (pureM (.int 1))))) (pureM (.str "|")))) (seqM (asgM (callM (Mi.row_from n) (mdM [false, false] (consA (getM 0) (consA (op2 addD (getM 1) (pureM (.int 1))) (pureM []))))) (tgU 3 (tgs1 (tgN 2) (tgs1 (tgN 3) (tgs1 (tgN 1) (tgs0)))))) (dropM (mtO 4 appD (consM (tupM (consM (getM 2) (consM (getM 3) (pureM [])))) (pureM []))))) 100000) (seqM (ifM (boolM (op2 neD (slM (getM 0) (partM (getM 1)) (partM (op2 addD (getM 1) (pureM (.int 1))))) (pureM (.str "]")))) (raiseM "BadText") (skipM)) (retM (tupM (consM (tupM (consM (pureM (.str "all")) (consM (rdM 4) (pureM [])))) (consM (op2 addD (getM 1) (pureM (.int 1))) (pureM [])))))))))
def tree_from : Nat → Fn
  | 0 => fun _ => .stuck
  | n + 1 => fnM false 6 (seqM (setM 2 (slM (getM 0) (partM (getM 1)) (partM (op2 addD (getM 1) (pureM (.int 1)))))) (seqM (ifM (boolM (op2 eqD (getM 2) (pureM (.str "!")))) (retM (tupM (consM (tupM (consM (pureM (.str "won")) (pureM []))) (consM (op2 addD (getM 1) (pureM (.int 1))) (pureM []))))) (skipM)) (seqM (ifM (boolM (op2 eqD (getM 2) (pureM (.str "?")))) (retM (tupM (consM (tupM (consM (pureM (.str "not")) (pureM []))) (consM (op2 addD (getM 1) (pureM (.int 1))) (pureM []))))) (skipM)) (seqM (ifM (boolM (op2 eqD (getM 2) (pureM (.str "[")))) (retM (callM (Mi.rows_from n) (mdM [false, false] (consA (getM 0) (consA (op2 addD (getM 1) (pureM (.int 1))) (pureM [])))))) (skipM)) (seqM (ifM (boolM (op2 neD (getM 2) (pureM (.str "(")))) (raiseM "BadText") (skipM)) (seqM (asgM (callM (Mi.row_from n) (mdM [false, false] (consA (getM 0) (consA (op2 addD (getM 1) (pureM (.int 1))) (pureM []))))) (tgU 3 (tgs1 (tgN 3) (tgs1 (tgN 4) (tgs1 (tgN 5) (tgs0)))))) (seqM (ifM (boolM (op2 neD (slM (getM 0) (partM (getM 5)) (partM (op2 addD (getM 5) (pureM (.int 1))))) (pureM (.str ")")))) (raiseM "BadText") (skipM)) (retM (tupM (consM (tupM (consM (pureM (.str "move")) (consM (getM 3) (consM (getM 4) (pureM []))))) (consM (op2 addD (getM 5) (pureM (.int 1))) (pureM []))))))))))))
end
end Mi
end DL
end
section
namespace DL
open PySem PySem.Spec L2
open PyProof.Rows hiding St
/-! ### a list so many times over -/
end DL
end
section
namespace DL
open PySem PySem.Spec L2 DLS
open PyProof.Rows hiding St
/-! ### an own list compared with what a call tells: the list stays the def's own -/
section
variable {X : Cx} {G : Gh} {W : WX} {b : Expr} {pos : Pos}
end
end DL
end
section
/-! several except clauses, all with the same name -/
namespace DL
open PySem PySem.Spec L2
open PyProof.Rows hiding St
abbrev ClT := Value × (Addr → Value → Option Addr → TS)
inductive ClsA (X : Cx) (n : Str) : List ExceptHandler → List ClT → Prop
  | nil : ClsA X n [] []
  | cons {x : Str} {z : ClT} {b1 : Stmt} {su : List Stmt} {np p' : PySem.Pos} {hds : List ExceptHandler} {l : List ClT} : Names X x z.1 →
      (∀ (a : Addr) (oe : Obj) (cl : Value) (d : Option Addr) (pn : List (Addr × Obj)), Zc cl d oe → (∃ vs, oe.data = .fields vs) → PSs (X.suite a ((a, oe) :: pn)) (b1 :: su) (z.2 a cl d)) → ClsA X n hds l →
      ClsA X n (.ExceptHandler (some (.Name x np)) (some n) (b1 :: su) p' :: hds) (z :: l)
section
variable {X : Cx} {n : Str} {i : Nat} {body : List Stmt} {h1 : ExceptHandler} {hds : List ExceptHandler} {l : List ClT} {pos : PySem.Pos} {tb : WX → TS} {Wo : WX}
end
/-! ### over slots -/
section
variable {X : Cx} {G : Gh} {W : WX} {rm : RM} {tab : ExTab}
/-- a clause: its class, what its suite does -/
inductive ClsE (X : Cx) (G : Gh) (rm : RM) (tab : ExTab) (n : Str) : List ExceptHandler → List (Str × (Str → MS)) → Prop
  | nil : ClsE X G rm tab n [] []
  | cons {x : Str} {sm : Str → MS} {b1 : Stmt} {su : List Stmt} {np p' : PySem.Pos} {hds : List ExceptHandler} {l : List (Str × (Str → MS))} : (tab.lookup x).isSome = true → Gl X x → (x == ("__debug__" : Str)) = false →
      (∀ (a : Addr) (oe : Obj) (C : Addr) (c : Str) (pn : List (Addr × Obj)), HotB (X.suite a ((a, oe) :: pn)) a c C oe → DSs (X.suite a ((a, oe) :: pn)) ⟨G.m, G.H0, G.pr, some (a, c)⟩ W0 rm (b1 :: su) (sm c)) → ClsE X G rm tab n hds l →
      ClsE X G rm tab n (.ExceptHandler (some (.Name x np)) (some n) (b1 :: su) p' :: hds) ((x, sm) :: l)
end
end DL
end
section
/-! for x in xs, xs a list of the def's own that it changes afterwards -/
namespace DL
open PySem PySem.Spec L2
open PyProof.Rows hiding St
/-- slot i is guarded: it holds the list at a -/
def Gh.prot (G : Gh) (i : Nat) (a : Addr) : Gh := { G with pr := (i, a) :: G.pr }
section
variable {G : Gh} {σ : L2.St} {H : Hp} {ρ : DL.Env} {i : Nat} {a : Addr}
theorem StOk.guard (k : StOk G σ H ρ) (pf : pfree G i) {c : OC} (h : ρ[i]? = some (.cell c)) (ha : σ[i]? = some (some (.ref a))) : StOk (G.prot i a) σ H ρ := by
  refine ⟨k.len, k.dat, fun j xs hj => ?_, k.sep, fun p hp => ?_, fun b o hb hn => k.keep b o hb fun p hp => hn p (List.mem_cons_of_mem _ hp), k.exn⟩
  · obtain ⟨b, vs, h1, h2, h3, h4⟩ := k.own j xs hj
    refine ⟨b, vs, h1, h2, h3, fun hq => ?_⟩
    have hq' : ∀ p ∈ G.pr, p.1 ≠ j := fun p hp => hq p (List.mem_cons_of_mem _ hp)
    obtain ⟨q1, q2⟩ := h4 hq'
    refine ⟨q1, fun p hp => ?_⟩
    rcases List.mem_cons.mp hp with rfl | hp
    · intro e
      have e : a = b := e
      subst e
      exact k.sep i j c xs a (hq _ List.mem_cons_self) h hj ha h1
    · exact q2 p hp
  · rcases List.mem_cons.mp hp with rfl | hp
    · exact ⟨ha, c, h⟩
    · exact k.prot p hp
end
section
variable {X : Cx} {G : Gh} {W : WX} {rm : RM} {pos : PySem.Pos}
end
end DL
end
section
/-! comprehensions over zip(xs, ys): each turn makes a new tuple -/
namespace DL
open PySem PySem.Spec L2
open PyProof.Rows hiding St
structure IterG (m : Md) (H : Hp) (J : It) (xs : List D) : Prop where
  stop : ∀ H', Stable H H' → J.stop xs.length H'
  go : ∀ i H', Stable H H' → i < xs.length → J.go i H'
  yld : ∀ i H1 v H2, Stable H H1 → i < xs.length → J.yld i H1 v H2 → Grow H1 H2 ∧ ∃ d, xs[i]? = some d ∧ Rep m H2 v d
section
variable {X : Cx} {G : Gh} {W : WX}
end
end DL
end
section
/-! isinstance(d, dict), d a dict whose keys are nested -/
namespace DL
open PySem PySem.Spec L2 DLS
open PyProof.Rows hiding St
section
variable {X : Cx} {G : Gh} {W : WX} {e : Expr} {pos : Pos}
end
end DL
end
section
/-! data with dicts of nested keys, read (for repr) -/
namespace DL
open PySem PySem.Spec L2 DLS
open PyProof.Rows hiding St
mutual
def toPyR : D → PyData
  | .non => .none
  | .bl b => .bool b
  | .int i => .int i
  | .str s => .str s
  | .lst xs => .list (toPyRL xs)
  | .tup xs => .tuple (toPyRL xs)
  | .dic ks vs => .dict ((toPyRL ks).zip (toPyRL vs))
  | .ins _ _ _ => .none
def toPyRL : List D → List PyData
  | [] => []
  | x :: xs => toPyR x :: toPyRL xs
end
mutual
def okRp : D → Bool
  | .lst xs => okRpL xs
  | .tup xs => okRpL xs
  | .dic ks vs => ks.all isNK && okRpL ks && okRpL vs
  | .ins _ _ _ => false
  | _ => true
def okRpL : List D → Bool
  | [] => true
  | x :: xs => okRp x && okRpL xs
end
theorem vals_keys : ∀ kvs : List NEnt, Vals (kvs.map fun p => V.ref p.2.1) (kvs.map fun p => Value.ref p.2.1)
  | [] => .nil
  | _ :: l => .cons rfl (vals_keys l)
theorem toPyRL_len : ∀ xs : List D, (toPyRL xs).length = xs.length
  | [] => rfl
  | _ :: xs => by simp [toPyRL, toPyRL_len xs]
section
variable {m : Md} {X : Cx} {pins : List (Addr × Obj)} {σ : L2.St} {H : Hp} {s : Shared}
/-- gate hb: the boot heap holds sys.modules (NoThreading's Ns of the kit's Boot gives it); else nothing says that no list stands there -/
theorem sys_free (I : Inv X pins σ H s) (hb : ∃ o, X.base.get? sysModules = some o) : H sysModules = none := let ⟨o, g⟩ := hb; (I.bs _ o g).2
theorem lst_sys (I : Inv X pins σ H s) (hb : ∃ o, X.base.get? sysModules = some o) (hk : X.K.lookup sysModules = none) {a : Addr} {xs : List V} (h : SqF X.K H a xs) : sysModules ≠ a := by
  rintro rfl
  rcases h with ⟨o, h⟩ | ⟨its, n, h1, _⟩
  · rw [sys_free I hb] at h; cases h
  · rw [hk] at h1; cases h1
mutual
theorem readsR (I : Inv X pins σ H s) (hm : m.K = X.K) (hw : m.w = X.w) (hb : ∃ o, X.base.get? sysModules = some o) (hk : X.K.lookup sysModules = none) : ∀ (d : D) (v : V) (u : Value), Rep m H v d → okRp d = true → RelV v u → ∃ as, Reads s.heap u (toPyR d) as ∧ sysModules ∉ as
  | .non, _, _, h, _, r => by cases h; cases r; exact ⟨_, .none, List.not_mem_nil⟩
  | .bl b, _, _, h, _, r => by cases h; cases r; exact ⟨_, .bool b, List.not_mem_nil⟩
  | .int i, _, _, h, _, r => by cases h; obtain ⟨_, rfl⟩ := r; exact ⟨_, .int i _, List.not_mem_nil⟩
  | .str x, _, _, h, _, r => by cases h; obtain ⟨_, rfl⟩ := r; exact ⟨_, .str x _, List.not_mem_nil⟩
  | .lst ds, _, _, h, c, r => by
    cases h with
    | lst q rl =>
      cases r
      rw [hm] at q
      have nsy := lst_sys I hb hk q
      have hs := q.sq
      obtain ⟨its, rv, ⟨o, n, ho, hc, _, hd⟩, _⟩ := I.list hs
      obtain ⟨as, hr, hn⟩ := readsRL I hm hw hb hk ds _ its rl c rv
      exact ⟨_, Reads.list ho hc hd hr, fun h => by rcases List.mem_cons.mp h with h | h; exact nsy h; exact hn h⟩
  | .tup ds, _, _, h, c, r => by
    cases h with
    | tup q rl =>
      cases r
      have hs := q
      rw [hm] at hs
      obtain ⟨its, rv, ⟨o, ho, hc, n, hd⟩, _⟩ := I.tuple hs
      obtain ⟨as, hr, hn⟩ := readsRL I hm hw hb hk ds _ its rl c rv
      exact ⟨_, Reads.tuple ho hc hd hr, hn⟩
  | .dic ks vs, _, _, h, c, r => by
    have c : (ks.all isNK && okRpL ks && okRpL vs) = true := c
    rw [Bool.and_eq_true, Bool.and_eq_true] at c
    obtain ⟨a, kvs, rfl, n, rv, hl⟩ := nd_frz h c.1.1
    cases r
    obtain ⟨us, vu, _, nsy, o, es, ep, h1, h2, h3, h4, _, _⟩ := n.dict I hm hw
    have hl2 : kvs.length = us.length := by have := vu.length; simpa using this
    have ek : es.toList.map (·.key) = kvs.map fun p => Value.ref p.2.1 := by
      rw [h4]
      simp only [rowsN, List.map_map]
      have e : kvs = (kvs.zip us).map (·.1) := by rw [List.map_fst_zip (by omega)]
      conv => rhs; rw [e]
      rw [List.map_map]; rfl
    have ev : es.toList.map (·.val) = us := by
      rw [h4]
      simp only [rowsN, List.map_map]
      have e : us = (kvs.zip us).map (·.2) := by rw [List.map_snd_zip (by omega)]
      conv => rhs; rw [e]
      rfl
    have vk := vals_keys kvs
    obtain ⟨as, ra, na⟩ := readsRL I hm hw hb hk ks _ _ n.rp c.1.2 vk
    obtain ⟨bs, rb, nb⟩ := readsRL I hm hw hb hk vs _ _ rv c.2 vu
    have l1 : (toPyRL ks).length = (toPyRL vs).length := by rw [toPyRL_len, toPyRL_len, hl]
    refine ⟨_, Reads.dict h1 h2.1 h3 (as := as) (bs := bs) ?_ ?_, fun h => ?_⟩
    · rw [ek, List.map_fst_zip (by omega)]; exact ra
    · rw [ev, List.map_snd_zip (by omega)]; exact rb
    · rw [List.cons_append, List.mem_cons, List.mem_append] at h
      rcases h with h | h | h
      · exact beq_eq_false_iff_ne.mp nsy h.symm
      · exact na h
      · exact nb h
  | .ins _ _ _, _, _, _, c, _ => by cases c
theorem readsRL (I : Inv X pins σ H s) (hm : m.K = X.K) (hw : m.w = X.w) (hb : ∃ o, X.base.get? sysModules = some o) (hk : X.K.lookup sysModules = none) : ∀ (ds : List D) (vs : List V) (us : List Value), RepL m H vs ds → okRpL ds = true → Vals vs us → ∃ as, ReadsAll s.heap us (toPyRL ds) as ∧ sysModules ∉ as
  | [], _, _, h, _, r => by cases h; cases r; exact ⟨_, .nil, List.not_mem_nil⟩
  | d :: ds, _, _, h, c, r => by
    have c : (okRp d && okRpL ds) = true := c
    rw [Bool.and_eq_true] at c
    cases h with
    | cons h1 h2 =>
      cases r with
      | cons r1 r2 =>
        obtain ⟨as, q1, n1⟩ := readsR I hm hw hb hk d _ _ h1 c.1 r1
        obtain ⟨bs, q2, n2⟩ := readsRL I hm hw hb hk ds _ _ h2 c.2 r2
        exact ⟨_, .cons q1 q2, fun h => by rcases List.mem_append.mp h with h | h; exact n1 h; exact n2 h⟩
end
end
end DL
end
section
/-! repr of data with dicts of nested keys -/
namespace DL
open PySem PySem.Spec L2 DLS
open PyProof.Rows hiding St
def fitR (d : PyData) : Prop := d.showable = true ∧ d.depth < 64 ∧ d.shown.length ≤ sizeLine
def rRepr (m : Md) : List V → Hp → VK → Prop := fun xs H Q => ∃ (a : Addr) (d : D), xs = [.ref a] ∧ Rep m H (.ref a) d ∧ okRp d = true ∧ fitR (toPyR d) ∧ Q (.str (toPyR d).shown) H
theorem call_reprR {X : Cx} {m : Md} (hm : m = ⟨X.K, X.mg, X.w⟩) (hb : ∃ o, X.base.get? sysModules = some o) (hk : X.K.lookup sysModules = none) (hg : X.A.guards = some []) (hu : X.A.units + 66 < cLine) : CallR X (.builtin "repr") (rRepr m) := by
  intro pins s σ H xs us Q I r h
  obtain ⟨a, d, rfl, r1, ok, ⟨f1, f2, f3⟩, q⟩ := h
  cases r with
  | cons r2 r3 =>
    cases r3
    obtain rfl : _ = Value.ref a := r2
    obtain ⟨as, rd, ns⟩ := readsR I (by rw [hm]) (by rw [hm]) hb hk d _ _ r1 ok rfl
    exact PySem.repr_of_reads' rd f1 (fun _ => ns) hg (by omega) (fun _ _ h => h) (fun h' u tk kp => ⟨.str _, H, I.kept kp, ⟨_, rfl⟩, q⟩) f3
instance (d : PyData) : Decidable (fitR d) := by unfold fitR; infer_instance
def isCon : D → Bool
  | .lst _ => true
  | .tup _ => true
  | .dic _ _ => true
  | _ => false
def reprD (d : D) : Option D := if isCon d = true ∧ okRp d = true ∧ fitR (toPyR d) then some (.str (toPyR d).shown) else none
def reprM (f : M D) : M D := bindM f fun d => liftM (reprD d)
theorem con_ref {m : Md} {H : Hp} {v : V} {d : D} (r : Rep m H v d) (c : isCon d = true) (k : okRp d = true) : ∃ a, v = .ref a := by
  cases d with
  | lst ds => cases r with | lst _ _ => exact ⟨_, rfl⟩
  | tup ds => cases r with | tup _ _ => exact ⟨_, rfl⟩
  | dic ks vs =>
    have k : (ks.all isNK && okRpL ks && okRpL vs) = true := k
    rw [Bool.and_eq_true, Bool.and_eq_true] at k
    obtain ⟨a, _, e, _⟩ := nd_frz r k.1.1
    exact ⟨a, e⟩
  | _ => cases c
section
variable {X : Cx} {G : Gh} {W : WX} {e : Expr} {pos : Pos}
theorem de_repr {p : Pos} {f : M D} (hK : G.m = ⟨X.K, X.mg, X.w⟩) (hb : ∃ o, X.base.get? sysModules = some o) (hk : X.K.lookup sysModules = none) (hgd : X.A.guards = some []) (hu : X.A.units + 66 < cLine) (hg : Gl X "repr") (hm : X.mg "repr" = none) (ha : DE X G W e f)
    (hs : starEach (e :: []) X.env = (false, eval e X.env) :: starEach [] X.env := by rfl)
    (hpl : (backTo pos (starEach [] X.env)).any (·.1) = false := by rfl) : DE X G W (.Call (.Name "repr" p) [e] [] pos) (reprM f) :=
  pe_imp (pe_callB (call_reprR hK hb hk hgd hu) hg hm (by decide +kernel) (pa_cons ha pa_nil hs) (by decide) (by decide) hs hpl) fun σ H Q ⟨ρ, k, q⟩ => ⟨ρ, k, q.bind.mono fun d ρ1 H1 _ s1 k1 q1 v r => by
    obtain ⟨z, e, q3⟩ := q1.lift k1
    have e : (if isCon d = true ∧ okRp d = true ∧ fitR (toPyR d) then some (D.str (toPyR d).shown) else none) = some z := e
    split at e
    · rename_i c
      cases e
      obtain ⟨a, rfl⟩ := con_ref r c.1 c.2.1
      exact ⟨a, d, rfl, r, c.2.1, c.2.2, q3 H1 Stable.rfl k1 _ (.str _)⟩
    · cases e⟩
end
/-! == of two texts, of any length -/
def eqSD : D → D → Option D
  | .str a, .str b => some (.bl (decide (a = b)))
  | _, _ => none
theorem opd_eqS {m : Md} : OpD m rEq eqSD := fun x y dx dy d H Q rx ry e k => by
  cases rx with
  | str a =>
    cases ry with
    | str b =>
      have e : some (D.bl (decide (a = b))) = some d := e
      cases e
      refine ⟨rfl, ?_⟩
      have h : decide (V.str a = V.str b) = decide (a = b) := by simp
      rw [h]
      exact k _ H Grow.rfl (.bl _)
    | _ => cases e
  | _ => cases e
def neSD : D → D → Option D
  | .str a, .str b => some (.bl (!decide (a = b)))
  | _, _ => none
theorem opd_neS {m : Md} : OpD m rNe neSD := fun x y dx dy d H Q rx ry e k => by
  cases rx with
  | str a =>
    cases ry with
    | str b =>
      have e : some (D.bl (!decide (a = b))) = some d := e
      cases e
      refine ⟨rfl, ?_⟩
      have h : decide (V.str a = V.str b) = decide (a = b) := by simp
      rw [h]
      exact k _ H Grow.rfl (.bl _)
    | _ => cases e
  | _ => cases e
end DL
end
namespace DL
open PySem PySem.Spec L2
open PyProof.Rows hiding St
structure Txt (K : PySem.W.Frag) (mg : Str → Option Value) : Prop where
  exs : Exs K mg tab
  n_ValueError : mg "ValueError" = none
  n_all : mg "all" = none
  n_bool : mg "bool" = none
  n_int : mg "int" = none
  n_isinstance : mg "isinstance" = none
  n_len : mg "len" = none
  n_max : mg "max" = none
  n_range : mg "range" = none
  n_repr : mg "repr" = none
  n_str : mg "str" = none
  n_tuple : mg "tuple" = none
  c_FIGURES : ∃ t, mg "FIGURES" = some (.str "0123456789" t)
  c_MOST_DEPTH : ∃ t, mg "MOST_DEPTH" = some (.int 12 t)
  c_NOT : ∃ t, mg "NOT" = some (.str "not" t)
  c_WON : ∃ t, mg "WON" = some (.str "won" t)
/-! ### the mirrors -/
namespace Mi
def read_tree : Fn := fnM false 4 (seqM (ifM (boolM (op2 gtA (op2 addD (mtV "str" countTD (getM 0) (consM (pureM (.str "(")) (pureM []))) (mtV "str" countTD (getM 0) (consM (pureM (.str "[")) (pureM [])))) (pureM (.int 400)))) (raiseM "BadText") (skipM)) (seqM (asgM (callM (Mi.tree_from 140) (mdM [false, false] (consA (getM 0) (consA (pureM (.int 0)) (pureM []))))) (tgU 2 (tgs1 (tgN 1) (tgs1 (tgN 2) (tgs0))))) (seqM (ifM (boolM (op2 neD (getM 2) (callD lenG (consM (getM 0) (pureM []))))) (raiseM "BadText") (skipM)) (seqM (tryNX (subT tab "BadPaper") (setM 3 (callM Mi.depth2 (mdM [false] (consA (getM 1) (pureM []))))) (raiseM "BadText")) (seqM (ifM (boolM (op2 gtA (getM 3) (pureM (.int 12)))) (raiseM "BadText") (skipM)) (retM (getM 1)))))))
def law_tree_by : Nat → Fn
  | 0 => fun _ => .stuck
  | n + 1 => fnM false 8 (seqM (setM 3 (callM Mi.law_list (mdM [false, false, false] (consA (getM 0) (consA (pureM (.int 8)) (consA (pureM (.int 60)) (pureM []))))))) (seqM (ifM (orM (boolM (op2 eqD (getM 2) (pureM (.int 0)))) (boolM (op2 eqD (op2 modD (op2 ixX (getM 3) (pureM (.int 0))) (pureM (.int 4))) (pureM (.int 0))))) (retM (tupM (consM (getM 1) (pureM [])))) (skipM)) (seqM (setM 4 (tupM (consM (tupM (consM (op2 modD (op2 ixX (getM 3) (pureM (.int 1))) (pureM (.int 5))) (consM (op2 modD (op2 ixX (getM 3) (pureM (.int 2))) (pureM (.int 5))) (pureM [])))) (consM (tupM (consM (op2 modD (op2 ixX (getM 3) (pureM (.int 3))) (pureM (.int 5))) (consM (op2 modD (op2 ixX (getM 3) (pureM (.int 4))) (pureM (.int 5))) (pureM [])))) (pureM []))))) (seqM (ifM (boolM (op2 eqD (op2 modD (op2 ixX (getM 3) (pureM (.int 0))) (pureM (.int 4))) (pureM (.int 1)))) (retM (tupM (consM (pureM (.str "move")) (consM (getM 4) (consM (callM (Mi.law_tree_by n) (mdM [false, false, false] (consA (callM Mi.law_mix (mdM [false, false, false] (consA (getM 0) (consA (pureM (.int 9)) (consA (op2 powD (pureM (.int 10)) (pureM (.int 6))) (pureM [])))))) (consA (getM 1) (consA (op2 subD (getM 2) (pureM (.int 1))) (pureM [])))))) (pureM [])))))) (skipM)) (seqM (setOM 5 (sizeM (pureM []))) (seqM (forD (rg1M (consM (op2 addD (pureM (.int 1)) (op2 modD (op2 ixX (getM 3) (pureM (.int 5))) (pureM (.int 3)))) (pureM []))) (tgN 6) (seqM (setM 7 (tupM (consM (tupM (consM (getM 6) (consM (op2 modD (op2 ixX (getM 3) (pureM (.int 6))) (pureM (.int 5))) (pureM [])))) (consM (tupM (consM (op2 modD (op2 ixX (getM 3) (pureM (.int 7))) (pureM (.int 5))) (consM (getM 6) (pureM [])))) (pureM []))))) (dropM (mtO 5 appD (consM (tupM (consM (getM 7) (consM (callM (Mi.law_tree_by n) (mdM [false, false, false] (consA (callM Mi.law_mix (mdM [false, false, false] (consA (getM 0) (consA (op2 addD (pureM (.int 20)) (getM 6)) (consA (op2 powD (pureM (.int 10)) (pureM (.int 6))) (pureM [])))))) (consA (getM 1) (consA (op2 subD (getM 2) (pureM (.int 1))) (pureM [])))))) (pureM [])))) (pureM [])))))) (retM (tupM (consM (pureM (.str "all")) (consM (rdM 5) (pureM [])))))))))))
def law_tree_text : Nat → Fn
  | 0 => fun _ => .stuck
  | n + 1 => fnM false 3 (seqM (ifM (boolM (op2 eqD (callD lenG (consM (getM 0) (pureM []))) (pureM (.int 1)))) (retM (op2 ixX (lstM (sizeM (consM (pureM (.str "?")) (consM (pureM (.str "!")) (pureM []))))) (callD intCD (consM (op2 eqD (op2 ixX (getM 0) (pureM (.int 0))) (pureM (.str "won"))) (pureM []))))) (skipM)) (seqM (ifM (boolM (op2 eqD (op2 ixX (getM 0) (pureM (.int 0))) (pureM (.str "move")))) (retM (op2 addD (op2 addD (op2 addD (op2 addD (pureM (.str "(")) (callM Mi.law_line_text (mdM [false] (consA (lstM (sizeM (consM (op2 ixX (getM 0) (pureM (.int 1))) (pureM [])))) (pureM []))))) (pureM (.str " "))) (callM (Mi.law_tree_text n) (mdM [false] (consA (op2 ixX (getM 0) (pureM (.int 2))) (pureM []))))) (pureM (.str ")")))) (skipM)) (retM (op2 addD (op2 addD (pureM (.str "[")) (mtV "str" joinD (pureM (.str "|")) (consM (lstM (compO (itemsGM (op2 ixX (getM 0) (pureM (.int 1)))) (tgU 2 (tgs1 (tgN 1) (tgs1 (tgN 2) (tgs0)))) (pureM true) (op2 addD (op2 addD (callM Mi.law_line_text (mdM [false] (consA (lstM (sizeM (consM (getM 1) (pureM [])))) (pureM [])))) (pureM (.str " "))) (callM (Mi.law_tree_text n) (mdM [false] (consA (getM 2) (pureM []))))) [1, 2])) (pureM [])))) (pureM (.str "]"))))))
def law_spoilt : Fn := fnM false 4 (seqM (setM 2 (op2 modD (getM 1) (pureM (.int 8)))) (seqM (setM 3 (op2 modD (op2 divD (getM 1) (pureM (.int 8))) (callD lenG (consM (getM 0) (pureM []))))) (seqM (ifM (boolM (op2 eqD (getM 2) (pureM (.int 0)))) (retM (op2 addD (slM (getM 0) (pureM none) (partM (getM 3))) (slM (getM 0) (partM (op2 addD (getM 3) (pureM (.int 1)))) (pureM none)))) (skipM)) (seqM (ifM (boolM (op2 eqD (getM 2) (pureM (.int 1)))) (retM (op2 addD (getM 0) (op2 ixX (lstM (sizeM (consM (pureM (.str "!")) (consM (pureM (.str " ")) (consM (pureM (.str "]")) (consM (pureM (.str ")")) (consM (pureM (.str "?")) (consM (pureM (.str "|")) (pureM []))))))))) (op2 modD (op2 divD (getM 1) (pureM (.int 8))) (pureM (.int 6)))))) (skipM)) (seqM (ifM (boolM (op2 eqD (getM 2) (pureM (.int 2)))) (retM (pureM (.str "[0.0-1.1 !|1.1-0.0 ?]"))) (skipM)) (seqM (ifM (boolM (op2 eqD (getM 2) (pureM (.int 3)))) (retM (op2 ixX (lstM (sizeM (consM (pureM (.str "")) (consM (pureM (.str "[]")) (consM (pureM (.str "()")) (consM (pureM (.str "[0.0-1.1 !|]")) (consM (pureM (.str "(0.0-1.1 )")) (consM (pureM (.str "[|]")) (consM (pureM (.str "0.0-1.1 !")) (consM (pureM (.str "(0.0-1.1!)")) (pureM []))))))))))) (op2 modD (op2 divD (getM 1) (pureM (.int 8))) (pureM (.int 8))))) (skipM)) (seqM (ifM (boolM (op2 eqD (getM 2) (pureM (.int 4)))) (retM (op2 ixX (lstM (sizeM (consM (pureM (.str "(0.0-1.1  !)")) (consM (op2 addD (pureM (.str " ")) (getM 0)) (consM (pureM (.str "( 0.0-1.1 !)")) (consM (pureM (.str "(0.0-1.1 ! )")) (pureM []))))))) (op2 modD (op2 divD (getM 1) (pureM (.int 8))) (pureM (.int 4))))) (skipM)) (seqM (ifM (boolM (op2 eqD (getM 2) (pureM (.int 5)))) (retM (op2 ixX (lstM (sizeM (consM (pureM (.str "(0.0-5.1 !)")) (consM (pureM (.str "(00.0-1.1 !)")) (consM (pureM (.str "(0.0 !)")) (consM (pureM (.str "(0.0-1.1-2.2 !)")) (pureM []))))))) (op2 modD (op2 divD (getM 1) (pureM (.int 8))) (pureM (.int 4))))) (skipM)) (seqM (ifM (boolM (op2 eqD (getM 2) (pureM (.int 6)))) (retM (op2 ixX (lstM (sizeM (consM (pureM (.str "(0.0-1.1 !]")) (consM (pureM (.str "[0.0-1.1 !)")) (consM (pureM (.str "{0.0-1.1 !}")) (consM (pureM (.str "(0.0-1.1 !|1.1-0.0 !)")) (pureM []))))))) (op2 modD (op2 divD (getM 1) (pureM (.int 8))) (pureM (.int 4))))) (skipM)) (retM (op2 addD (op2 addD (op2 mulTD (pureM (.str "(0.0-1.1 ")) (op2 addD (pureM (.int 13)) (op2 modD (op2 divD (getM 1) (pureM (.int 8))) (pureM (.int 9))))) (pureM (.str "!"))) (op2 mulTD (pureM (.str ")")) (op2 addD (pureM (.int 13)) (op2 modD (op2 divD (getM 1) (pureM (.int 8))) (pureM (.int 9))))))))))))))))
def law_refused : Fn := fnM false 2 (seqM (tryM 1 (subT tab "BadText") (dropM (callM Mi.read_tree (mdM [false] (consA (getM 0) (pureM []))))) (fun _ => retM (andV (exnM 1 (fun c => subT tab "YardError" c)) (exnM 1 (fun c => (tab.lookup c).map fun _ => true))))) (retM (pureM (.bl false))))
def law_none : Fn := fnM false 2 (seqM (tryM 1 (subT tab "BadPaper") (dropM (callM Mi.tree_text (mdM [false] (consA (getM 0) (pureM []))))) (fun _ => retM (andV (exnM 1 (fun c => subT tab "YardError" c)) (exnM 1 (fun c => (tab.lookup c).map fun _ => true))))) (retM (pureM (.bl false))))
def law : Fn := fnM false 10 (seqM (setM 1 (callM Mi.law_cell_at (mdM [false, false] (consA (getM 0) (consA (pureM (.int 1)) (pureM [])))))) (seqM (setM 2 (callM (Mi.law_tree_by 16) (mdM [false, false, false] (consA (callM Mi.law_cell_at (mdM [false, false] (consA (getM 0) (consA (pureM (.int 0)) (pureM []))))) (consA (op2 ixX (lstM (sizeM (consM (pureM (.str "won")) (consM (pureM (.str "not")) (pureM []))))) (op2 modD (getM 1) (pureM (.int 2)))) (consA (pureM (.int 4)) (pureM []))))))) (seqM (setM 3 (callM (Mi.law_tree_text 16) (mdM [false] (consA (getM 2) (pureM []))))) (seqM (setM 4 (reprM (getM 2))) (seqM (setM 5 (callM Mi.tree_text (mdM [false] (consA (getM 2) (pureM []))))) (seqM (ifM (orM (notM (boolM (isiM "str" (getM 5)))) (orM (boolM (op2 neD (getM 5) (getM 3))) (boolM (op2 neSD (reprM (getM 2)) (getM 4))))) (retM (pureM (.bl false))) (skipM)) (seqM (ifM (boolM (op2 gtA (op2 modD (op2 divD (getM 1) (pureM (.int 2))) (pureM (.int 3))) (pureM (.int 0)))) (retM (callM Mi.law_refused (mdM [false] (consA (callM Mi.law_spoilt (mdM [false, false] (consA (getM 3) (consA (op2 divD (getM 1) (pureM (.int 6))) (pureM []))))) (pureM []))))) (skipM)) (seqM (setM 6 (tupM (consM (tupM (consM (pureM (.int 0)) (consM (pureM (.int 0)) (pureM [])))) (consM (tupM (consM (pureM (.int 1)) (consM (pureM (.int 1)) (pureM [])))) (pureM []))))) (seqM (setM 7 (tupM (consM (pureM (.str "all")) (consM (lstM (sizeM (consM (tupM (consM (getM 6) (consM (tupM (consM (pureM (.str "won")) (pureM []))) (pureM [])))) (consM (tupM (consM (tupM (consM (tupM (consM (pureM (.int 1)) (consM (pureM (.int 1)) (pureM [])))) (consM (tupM (consM (pureM (.int 0)) (consM (pureM (.int 0)) (pureM [])))) (pureM [])))) (consM (tupM (consM (pureM (.str "not")) (pureM []))) (pureM [])))) (pureM []))))) (pureM []))))) (seqM (forD (itemsGM (lstM (sizeM (consM (getM 7) (consM (tupM (consM (pureM (.str "all")) (consM (lstM (sizeM (pureM []))) (pureM [])))) (consM (tupM (consM (pureM (.str "move")) (consM (getM 6) (consM (getM 7) (pureM []))))) (consM (tupM (consM (pureM (.str "lost")) (pureM []))) (pureM [])))))))) (tgN 8) (ifM (notM (boolM (callM Mi.law_none (mdM [false] (consA (getM 8) (pureM [])))))) (retM (pureM (.bl false))) (skipM))) (seqM (setM 9 (callM Mi.read_tree (mdM [false] (consA (getM 3) (pureM []))))) (retM (andV (isiM "tuple" (getM 9)) (op2 eqSD (reprM (getM 9)) (getM 4)))))))))))))))
end Mi
section
variable {P : Program} {w : World} {K : PySem.W.Frag} {mg : Str → Option Value} {base : Heap}
theorem sc_cell_text : FnScope N_cell_text P_cell_text (defScope s_cell_text) := ⟨rfl, rfl, rfl, by decide +kernel, rfl, by decide +kernel, by decide +kernel⟩
theorem bi_cell_text : BindsF "cell_text" s_cell_text P_cell_text := fun _ _ _ _ _ _ us hl => match us, hl with | [_], _ => rfl
theorem ok_cell_text (T : Txt K mg) {fA : Addr} {fd : FuncData} (Dn : DefIn K mg "cell_text" s_cell_text fA fd) : DFn P w K mg base "cell_text" 1 [false] .f Mi.cell_text :=
  dfn_ok (k := 0) Dn sc_cell_text rfl bi_cell_text fun cdv A outer s H E H0 pr pf hr tk => by
    have sc := sc_cell_text; have hu := hr.units; have hv := room_hv hr
    exact (dss_one (ds_ret (de_op op_addU opd_add (de_op op_addU opd_add (de_callTy call_str_int cd_str rfl T.n_str (by decide +kernel) (da_cons (de_ix (ix_X hv) opd_ixX (de_var 0 rfl (.inl rfl)) de_int) da_nil)) de_str) (de_callTy call_str_int cd_str rfl T.n_str (by decide +kernel) (da_cons (de_ix (ix_X hv) opd_ixX (de_var 0 rfl (.inl rfl)) de_int) da_nil)))))
theorem sc_move_text : FnScope N_move_text P_move_text (defScope s_move_text) := ⟨rfl, rfl, rfl, by decide +kernel, rfl, by decide +kernel, by decide +kernel⟩
theorem bi_move_text : BindsF "move_text" s_move_text P_move_text := fun _ _ _ _ _ _ us hl => match us, hl with | [_], _ => rfl
theorem ok_move_text (T : Txt K mg) {fA : Addr} {fd : FuncData} (Dn : DefIn K mg "move_text" s_move_text fA fd) (C_cell_text : DFn P w K mg base "cell_text" 1 [false] .f Mi.cell_text) : DFn P w K mg base "move_text" 2 [false] .f Mi.move_text :=
  dfn_ok (k := 1) Dn sc_move_text rfl bi_move_text fun cdv A outer s H E H0 pr pf hr tk => by
    have sc := sc_move_text; have hu := hr.units; have hv := room_hv hr
    exact (dss_one (ds_ret (de_op op_addU opd_add (de_op op_addU opd_add (de_calls rfl rfl tk C_cell_text hr (by decide) rfl (dg_d (de_ix (ix_X hv) opd_ixX (de_var 0 rfl (.inl rfl)) de_int) dg_nil)) de_str) (de_calls rfl rfl tk C_cell_text hr (by decide) rfl (dg_d (de_ix (ix_X hv) opd_ixX (de_var 0 rfl (.inl rfl)) de_int) dg_nil)))))
theorem sc_number_in : FnScope N_number_in P_number_in (defScope s_number_in) := ⟨rfl, rfl, rfl, by decide +kernel, rfl, by decide +kernel, by decide +kernel⟩
theorem bi_number_in : BindsF "number_in" s_number_in P_number_in := fun _ _ _ _ _ _ us hl => match us, hl with | [_], _ => rfl
theorem ok_number_in (T : Txt K mg) {fA : Addr} {fd : FuncData} (Dn : DefIn K mg "number_in" s_number_in fA fd) : DFn P w K mg base "number_in" 1 [false] .f Mi.number_in :=
  dfn_ok (k := 0) Dn sc_number_in rfl bi_number_in fun cdv A outer s H E H0 pr pf hr tk => by
    have sc := sc_number_in; have hu := hr.units; have hv := room_hv hr
    exact (dss_cons (ds_set 1 (pf 1 rfl) sc.nd rfl (.inl rfl) (de_if (dt_cmp (op_eqD hu) opd_eq (de_slice rfl (de_var 0 rfl (.inl rfl)) dp_none (dp_some de_int)) de_str (nomark _)) (de_slice rfl (de_var 0 rfl (.inl rfl)) (dp_some de_int) dp_none) (de_var 0 rfl (.inl rfl))))
      (dss_cons (ds_if (dt_w (dw_or (dt_not (dt_chain (op_leA hv) opd_leA (op_leA hv) opd_leA de_int (de_callB (callR_or call_len call_lenF) (cd_len.or cd_lenK) rfl T.n_len (by decide +kernel) (da_cons (de_var 1 rfl (.inl rfl)) da_nil)) de_int)) (dw_or1 (dt_not (dt_val (de_callB (cr_all rfl) cd_all rfl T.n_all (by decide +kernel) (da_cons (de_fz (do_lc rfl sc.nd (di_gen rfl (de_var 1 rfl (.inl rfl))) (blkOk_by (N := N_number_in) (sc := defScope s_number_in) (own := [("sign", 3)]) (by decide +kernel)) rfl rfl (fun _ _ _ _ _ _ => (dg_name 3 (pf 3 rfl) sc.nd rfl (.inl rfl))) (fun _ _ _ _ _ _ => dts_nil) (fun _ _ _ _ _ _ => (de_cmp (op_inX hv) opd_inX (de_var 3 rfl (.inl rfl)) (de_globS rfl T.c_FIGURES) (by with_unfolding_all rfl))))) da_nil))))))) (dss_one (ds_raises rfl rfl tk (T.exs.exc "BadText" rfl) rfl)) dss_nil)
      (dss_cons (ds_set 2 (pf 2 rfl) sc.nd rfl (.inl rfl) (de_callTy call_intT cd_intT rfl T.n_int (by decide +kernel) (da_cons (de_var 1 rfl (.inl rfl)) da_nil)))
      (dss_cons (ds_if (dt_cmp (op_eqD hu) opd_eq (de_slice rfl (de_var 0 rfl (.inl rfl)) dp_none (dp_some de_int)) de_str (nomark _)) (dss_one (ds_set 2 (pf 2 rfl) sc.nd rfl (.inl rfl) (de_op op_sub opd_sub de_int (de_var 2 rfl (.inl rfl))))) dss_nil)
      (dss_cons (ds_if (dt_cmp (op_neD hu) opd_ne (de_callTy call_str_int cd_str rfl T.n_str (by decide +kernel) (da_cons (de_var 2 rfl (.inl rfl)) da_nil)) (de_var 0 rfl (.inl rfl)) (nomark _)) (dss_one (ds_raises rfl rfl tk (T.exs.exc "BadText" rfl) rfl)) dss_nil)
      (dss_one (ds_ret (de_var 2 rfl (.inl rfl)))))))))
theorem sc_cell_in : FnScope N_cell_in P_cell_in (defScope s_cell_in) := ⟨rfl, rfl, rfl, by decide +kernel, rfl, by decide +kernel, by decide +kernel⟩
theorem bi_cell_in : BindsF "cell_in" s_cell_in P_cell_in := fun _ _ _ _ _ _ us hl => match us, hl with | [_], _ => rfl
theorem ok_cell_in (T : Txt K mg) {fA : Addr} {fd : FuncData} (Dn : DefIn K mg "cell_in" s_cell_in fA fd) (C_number_in : DFn P w K mg base "number_in" 1 [false] .f Mi.number_in) : DFn P w K mg base "cell_in" 2 [false] .f Mi.cell_in :=
  dfn_ok (k := 1) Dn sc_cell_in rfl bi_cell_in fun cdv A outer s H E H0 pr pf hr tk => by
    have sc := sc_cell_in; have hu := hr.units; have hv := room_hv hr
    exact (dss_cons (ds_set 1 (pf 1 rfl) sc.nd rfl (.inl rfl) (de_fz (do_bm rfl PySem.F.plainAttrs_str PySem.F.slot_str_split PySem.F.type_str_split mt_split mo_split (de_var 0 rfl (.inl rfl)) (da_cons de_str da_nil))))
      (dss_cons (ds_if (dt_cmp (op_neD hu) opd_ne (de_callB (callR_or call_len call_lenF) (cd_len.or cd_lenK) rfl T.n_len (by decide +kernel) (da_cons (de_var 1 rfl (.inl rfl)) da_nil)) de_int (nomark _)) (dss_one (ds_raises rfl rfl tk (T.exs.exc "BadText" rfl) rfl)) dss_nil)
      (dss_one (ds_ret (de_tup (da_cons (de_calls rfl rfl tk C_number_in hr (by decide) rfl (dg_d (de_ix (ix_X hv) opd_ixX (de_var 1 rfl (.inl rfl)) de_int) dg_nil)) (da_cons (de_calls rfl rfl tk C_number_in hr (by decide) rfl (dg_d (de_ix (ix_X hv) opd_ixX (de_var 1 rfl (.inl rfl)) de_int) dg_nil)) da_nil)))))))
theorem sc_move_in : FnScope N_move_in P_move_in (defScope s_move_in) := ⟨rfl, rfl, rfl, by decide +kernel, rfl, by decide +kernel, by decide +kernel⟩
theorem bi_move_in : BindsF "move_in" s_move_in P_move_in := fun _ _ _ _ _ _ us hl => match us, hl with | [_], _ => rfl
theorem ok_move_in (T : Txt K mg) {fA : Addr} {fd : FuncData} (Dn : DefIn K mg "move_in" s_move_in fA fd) (C_cell_in : DFn P w K mg base "cell_in" 2 [false] .f Mi.cell_in) : DFn P w K mg base "move_in" 3 [false] .f Mi.move_in :=
  dfn_ok (k := 2) Dn sc_move_in rfl bi_move_in fun cdv A outer s H E H0 pr pf hr tk => by
    have sc := sc_move_in; have hu := hr.units; have hv := room_hv hr
    exact (dss_cons (ds_set 1 (pf 1 rfl) sc.nd rfl (.inl rfl) (de_fz (do_bm rfl PySem.F.plainAttrs_str PySem.F.slot_str_split PySem.F.type_str_split mt_split mo_split (de_var 0 rfl (.inl rfl)) (da_cons de_str da_nil))))
      (dss_cons (ds_if (dt_cmp (op_neD hu) opd_ne (de_callB (callR_or call_len call_lenF) (cd_len.or cd_lenK) rfl T.n_len (by decide +kernel) (da_cons (de_var 1 rfl (.inl rfl)) da_nil)) de_int (nomark _)) (dss_one (ds_raises rfl rfl tk (T.exs.exc "BadText" rfl) rfl)) dss_nil)
      (dss_cons (ds_set 2 (pf 2 rfl) sc.nd rfl (.inl rfl) (de_tup (da_cons (de_calls rfl rfl tk C_cell_in hr (by decide) rfl (dg_d (de_ix (ix_X hv) opd_ixX (de_var 1 rfl (.inl rfl)) de_int) dg_nil)) (da_cons (de_calls rfl rfl tk C_cell_in hr (by decide) rfl (dg_d (de_ix (ix_X hv) opd_ixX (de_var 1 rfl (.inl rfl)) de_int) dg_nil)) da_nil))))
      (dss_cons (ds_if (dt_cmp (op_gtA hv) opd_gtA (de_callB (call_max2 rfl) cd_max2 rfl T.n_max (by decide +kernel) (da_cons (de_callB (cr_maxT rfl hv) cd_maxT rfl T.n_max (by decide +kernel) (da_cons (de_ix (ix_X hv) opd_ixX (de_var 2 rfl (.inl rfl)) de_int) da_nil)) (da_cons (de_callB (cr_maxT rfl hv) cd_maxT rfl T.n_max (by decide +kernel) (da_cons (de_ix (ix_X hv) opd_ixX (de_var 2 rfl (.inl rfl)) de_int) da_nil)) da_nil))) de_int (nomark _)) (dss_one (ds_raises rfl rfl tk (T.exs.exc "BadText" rfl) rfl)) dss_nil)
      (dss_one (ds_ret (de_var 2 rfl (.inl rfl))))))))
theorem sc_is_tree : FnScope N_is_tree P_is_tree (defScope s_is_tree) := ⟨rfl, rfl, rfl, by decide +kernel, rfl, by decide +kernel, by decide +kernel⟩
theorem bi_is_tree : BindsF "is_tree" s_is_tree P_is_tree := fun _ _ _ _ _ _ us hl => match us, hl with | [_, _], _ => rfl
theorem ok_is_tree (T : Txt K mg) {fA : Addr} {fd : FuncData} (Dn : DefIn K mg "is_tree" s_is_tree fA fd) : ∀ n, DFn P w K mg base "is_tree" (0 + n) [false, false] .f (Mi.is_tree n)
  | 0 => dfn_stuck Dn bi_is_tree
  | n + 1 => by
    have C_is_tree := ok_is_tree T Dn n
    exact dfn_ok (k := 0 + n) Dn sc_is_tree rfl bi_is_tree fun cdv A outer s H E H0 pr pf hr tk => by
      have sc := sc_is_tree; have hu := hr.units; have hv := room_hv hr
      exact (dss_cons (ds_if (dt_cmp (op_eqD hu) opd_eq (de_var 0 rfl (.inl rfl)) (de_tup (da_cons (de_var 1 rfl (.inr (.inl rfl))) da_nil)) (nomark _)) (dss_one (ds_ret de_bl)) dss_nil)
      (dss_cons (ds_if (dt_w (dw_and (dt_cmp (op_eqD hu) opd_eq (de_callB (callR_or call_len call_lenF) (cd_len.or cd_lenK) rfl T.n_len (by decide +kernel) (da_cons (de_var 0 rfl (.inl rfl)) da_nil)) de_int (nomark _)) (dw_and1 (dt_cmp (op_eqD hu) opd_eq (de_ix (ix_X hv) opd_ixX (de_var 0 rfl (.inl rfl)) de_int) de_str (nomark _))))) (dss_one (ds_ret (de_calls rfl rfl tk C_is_tree hr (by omega) rfl (dg_d (de_ix (ix_X hv) opd_ixX (de_var 0 rfl (.inl rfl)) de_int) (dg_d (de_var 1 rfl (.inr (.inl rfl))) dg_nil))))) dss_nil)
      (dss_cons (ds_if (dt_w (dw_and (dt_cmp (op_eqD hu) opd_eq (de_callB (callR_or call_len call_lenF) (cd_len.or cd_lenK) rfl T.n_len (by decide +kernel) (da_cons (de_var 0 rfl (.inl rfl)) da_nil)) de_int (nomark _)) (dw_and (dt_cmp (op_eqD hu) opd_eq (de_ix (ix_X hv) opd_ixX (de_var 0 rfl (.inl rfl)) de_int) de_str (nomark _)) (dw_and1 (dt_cmp (op_gtA hv) opd_gtA (de_callB (callR_or call_len call_lenF) (cd_len.or cd_lenK) rfl T.n_len (by decide +kernel) (da_cons (de_ix (ix_X hv) opd_ixX (de_var 0 rfl (.inl rfl)) de_int) da_nil)) de_int (nomark _)))))) (dss_one (ds_ret (de_callB (cr_all rfl) cd_all rfl T.n_all (by decide +kernel) (da_cons (de_fz (do_lc rfl sc.nd (di_gen rfl (de_ix (ix_X hv) opd_ixX (de_var 0 rfl (.inl rfl)) de_int)) (blkOk_by (N := N_is_tree) (sc := defScope s_is_tree) (own := [("row", 2)]) (by decide +kernel)) rfl rfl (fun _ _ _ _ _ _ => (dg_name 2 (pf 2 rfl) sc.nd rfl (.inl rfl))) (fun _ _ _ _ _ _ => dts_nil) (fun _ _ _ _ _ _ => (de_calls rfl rfl takes0 C_is_tree hr (by omega) rfl (dg_d (de_ix (ix_X hv) opd_ixX (de_var 2 rfl (.inl rfl)) de_int) (dg_d (de_var 1 rfl (.inr (.inl rfl))) dg_nil)))))) da_nil)))) dss_nil)
      (dss_one (ds_ret de_bl)))))
theorem sc_depth_of : FnScope N_depth_of P_depth_of (defScope s_depth_of) := ⟨rfl, rfl, rfl, by decide +kernel, rfl, by decide +kernel, by decide +kernel⟩
theorem bi_depth_of : BindsF "depth_of" s_depth_of P_depth_of := fun _ _ _ _ _ _ us hl => match us, hl with | [_], _ => rfl
theorem ok_depth_of (T : Txt K mg) {fA : Addr} {fd : FuncData} (Dn : DefIn K mg "depth_of" s_depth_of fA fd) : ∀ n, DFn P w K mg base "depth_of" (0 + n) [false] .f (Mi.depth_of n)
  | 0 => dfn_stuck Dn bi_depth_of
  | n + 1 => by
    have C_depth_of := ok_depth_of T Dn n
    exact dfn_ok (k := 0 + n) Dn sc_depth_of rfl bi_depth_of fun cdv A outer s H E H0 pr pf hr tk => by
      have sc := sc_depth_of; have hu := hr.units; have hv := room_hv hr
      exact (dss_cons (ds_if (dt_cmp (op_eqD hu) opd_eq (de_ix (ix_X hv) opd_ixX (de_var 0 rfl (.inl rfl)) de_int) de_str (nomark _)) (dss_one (ds_ret (de_op op_addU opd_add de_int (de_calls rfl rfl tk C_depth_of hr (by omega) rfl (dg_d (de_ix (ix_X hv) opd_ixX (de_var 0 rfl (.inl rfl)) de_int) dg_nil))))) dss_nil)
      (dss_cons (ds_if (dt_cmp (op_eqD hu) opd_eq (de_ix (ix_X hv) opd_ixX (de_var 0 rfl (.inl rfl)) de_int) de_str (nomark _)) (dss_one (ds_ret (de_op op_addU opd_add de_int (de_callB (cr_max rfl) cd_maxL rfl T.n_max (by decide +kernel) (da_cons (de_fz (do_lc rfl sc.nd (di_gen rfl (de_ix (ix_X hv) opd_ixX (de_var 0 rfl (.inl rfl)) de_int)) (blkOk_by (N := N_depth_of) (sc := defScope s_depth_of) (own := [("row", 1)]) (by decide +kernel)) rfl rfl (fun _ _ _ _ _ _ => (dg_name 1 (pf 1 rfl) sc.nd rfl (.inl rfl))) (fun _ _ _ _ _ _ => dts_nil) (fun _ _ _ _ _ _ => (de_calls rfl rfl takes0 C_depth_of hr (by omega) rfl (dg_d (de_ix (ix_X hv) opd_ixX (de_var 1 rfl (.inl rfl)) de_int) dg_nil))))) da_nil))))) dss_nil)
      (dss_one (ds_ret de_int))))
theorem sc_check_either : FnScope N_check_either P_check_either (defScope s_check_either) := ⟨rfl, rfl, rfl, by decide +kernel, rfl, by decide +kernel, by decide +kernel⟩
theorem bi_check_either : BindsF "check_either" s_check_either P_check_either := fun _ _ _ _ _ _ us hl => match us, hl with | [_], _ => rfl
theorem ok_check_either (T : Txt K mg) {fA : Addr} {fd : FuncData} (Dn : DefIn K mg "check_either" s_check_either fA fd) (C_is_tree : DFn P w K mg base "is_tree" 40 [false, false] .f (Mi.is_tree 40)) : DFn P w K mg base "check_either" 41 [false] .f Mi.check_either2 :=
  dfn_ok (k := 40) Dn sc_check_either rfl bi_check_either fun cdv A outer s H E H0 pr pf hr tk => by
    have sc := sc_check_either; have hu := hr.units; have hv := room_hv hr
    exact (dss_one (ds_if (dt_w (dw_and (dt_not (dt_val (de_calls rfl rfl tk C_is_tree hr (by decide) rfl (dg_d (de_var 0 rfl (.inl rfl)) (dg_d (de_globS rfl T.c_WON) dg_nil))))) (dw_and1 (dt_not (dt_val (de_calls rfl rfl tk C_is_tree hr (by decide) rfl (dg_d (de_var 0 rfl (.inl rfl)) (dg_d (de_globS rfl T.c_NOT) dg_nil)))))))) (dss_one (ds_raises rfl rfl tk (T.exs.exc "BadPaper" rfl) rfl)) dss_nil))
theorem sc_depth : FnScope N_depth P_depth (defScope s_depth) := ⟨rfl, rfl, rfl, by decide +kernel, rfl, by decide +kernel, by decide +kernel⟩
theorem bi_depth : BindsF "depth" s_depth P_depth := fun _ _ _ _ _ _ us hl => match us, hl with | [_], _ => rfl
theorem ok_depth (T : Txt K mg) {fA : Addr} {fd : FuncData} (Dn : DefIn K mg "depth" s_depth fA fd) (C_depth_of : DFn P w K mg base "depth_of" 40 [false] .f (Mi.depth_of 40)) (C_check_either : DFn P w K mg base "check_either" 41 [false] .f Mi.check_either2) : DFn P w K mg base "depth" 42 [false] .f Mi.depth2 :=
  dfn_ok (k := 41) Dn sc_depth rfl bi_depth fun cdv A outer s H E H0 pr pf hr tk => by
    have sc := sc_depth; have hu := hr.units; have hv := room_hv hr
    exact (dss_cons (ds_expr (de_calls rfl rfl tk C_check_either hr (by decide) rfl (dg_d (de_var 0 rfl (.inl rfl)) dg_nil)))
      (dss_one (ds_ret (de_calls rfl rfl tk C_depth_of hr (by decide) rfl (dg_d (de_var 0 rfl (.inl rfl)) dg_nil)))))
theorem sc_text_of : FnScope N_text_of P_text_of (defScope s_text_of) := ⟨rfl, rfl, rfl, by decide +kernel, rfl, by decide +kernel, by decide +kernel⟩
theorem bi_text_of : BindsF "text_of" s_text_of P_text_of := fun _ _ _ _ _ _ us hl => match us, hl with | [_], _ => rfl
theorem ok_text_of (T : Txt K mg) {fA : Addr} {fd : FuncData} (Dn : DefIn K mg "text_of" s_text_of fA fd) (C_move_text : DFn P w K mg base "move_text" 2 [false] .f Mi.move_text) : ∀ n, DFn P w K mg base "text_of" (2 + n) [false] .f (Mi.text_of n)
  | 0 => dfn_stuck Dn bi_text_of
  | n + 1 => by
    have C_text_of := ok_text_of T Dn C_move_text n
    exact dfn_ok (k := 2 + n) Dn sc_text_of rfl bi_text_of fun cdv A outer s H E H0 pr pf hr tk => by
      have sc := sc_text_of; have hu := hr.units; have hv := room_hv hr
      exact (dss_cons (ds_if (dt_cmp (op_eqD hu) opd_eq (de_ix (ix_X hv) opd_ixX (de_var 0 rfl (.inl rfl)) de_int) de_str (nomark _)) (dss_one (ds_ret de_str)) dss_nil)
      (dss_cons (ds_if (dt_cmp (op_eqD hu) opd_eq (de_ix (ix_X hv) opd_ixX (de_var 0 rfl (.inl rfl)) de_int) de_str (nomark _)) (dss_one (ds_ret de_str)) dss_nil)
      (dss_cons (ds_if (dt_cmp (op_eqD hu) opd_eq (de_ix (ix_X hv) opd_ixX (de_var 0 rfl (.inl rfl)) de_int) de_str (nomark _)) (dss_one (ds_ret (de_op op_addU opd_add (de_op op_addU opd_add (de_op op_addU opd_add (de_op op_addU opd_add de_str (de_calls rfl rfl tk C_move_text hr (by omega) rfl (dg_d (de_ix (ix_X hv) opd_ixX (de_var 0 rfl (.inl rfl)) de_int) dg_nil))) de_str) (de_calls rfl rfl tk C_text_of hr (by omega) rfl (dg_d (de_ix (ix_X hv) opd_ixX (de_var 0 rfl (.inl rfl)) de_int) dg_nil))) de_str))) dss_nil)
      (dss_one (ds_ret (de_op op_addU opd_add (de_op op_addU opd_add de_str (de_bm rfl PySem.F.plainAttrs_str PySem.F.slot_str_join PySem.F.type_str_join mt_join mv_join de_str (da_cons (de_fz (do_lc rfl sc.nd (di_gen rfl (de_ix (ix_X hv) opd_ixX (de_var 0 rfl (.inl rfl)) de_int)) (blkOk_by (N := N_text_of) (sc := defScope s_text_of) (own := [("move", 1), ("behind", 2)]) (by decide +kernel)) rfl rfl (fun _ _ _ _ _ _ => (dg_tup rfl rfl (dgs_cons (dg_name 1 (pf 1 rfl) sc.nd rfl (.inl rfl)) (dgs_cons (dg_name 2 (pf 2 rfl) sc.nd rfl (.inl rfl)) dgs_nil)))) (fun _ _ _ _ _ _ => dts_nil) (fun _ _ _ _ _ _ => (de_op op_addU opd_add (de_op op_addU opd_add (de_calls rfl rfl takes0 C_move_text hr (by omega) rfl (dg_d (de_var 1 rfl (.inl rfl)) dg_nil)) de_str) (de_calls rfl rfl takes0 C_text_of hr (by omega) rfl (dg_d (de_var 2 rfl (.inl rfl)) dg_nil)))))) da_nil))) de_str))))))
theorem sc_tree_text : FnScope N_tree_text P_tree_text (defScope s_tree_text) := ⟨rfl, rfl, rfl, by decide +kernel, rfl, by decide +kernel, by decide +kernel⟩
theorem bi_tree_text : BindsF "tree_text" s_tree_text P_tree_text := fun _ _ _ _ _ _ us hl => match us, hl with | [_], _ => rfl
theorem ok_tree_text (T : Txt K mg) {fA : Addr} {fd : FuncData} (Dn : DefIn K mg "tree_text" s_tree_text fA fd) (C_depth : DFn P w K mg base "depth" 42 [false] .f Mi.depth2) (C_text_of : DFn P w K mg base "text_of" 18 [false] .f (Mi.text_of 16)) : DFn P w K mg base "tree_text" 43 [false] .f Mi.tree_text :=
  dfn_ok (k := 42) Dn sc_tree_text rfl bi_tree_text fun cdv A outer s H E H0 pr pf hr tk => by
    have sc := sc_tree_text; have hu := hr.units; have hv := room_hv hr
    exact (dss_cons (ds_expr (de_calls rfl rfl tk C_depth hr (by decide) rfl (dg_d (de_var 0 rfl (.inl rfl)) dg_nil)))
      (dss_one (ds_ret (de_calls rfl rfl tk C_text_of hr (by decide) rfl (dg_d (de_var 0 rfl (.inl rfl)) dg_nil)))))
theorem sc_row_from : FnScope N_row_from P_row_from (defScope s_row_from) := ⟨rfl, rfl, rfl, by decide +kernel, rfl, by decide +kernel, by decide +kernel⟩
theorem bi_row_from : BindsF "row_from" s_row_from P_row_from := fun _ _ _ _ _ _ us hl => match us, hl with | [_, _], _ => rfl
theorem sc_rows_from : FnScope N_rows_from P_rows_from (defScope s_rows_from) := ⟨rfl, rfl, rfl, by decide +kernel, rfl, by decide +kernel, by decide +kernel⟩
theorem bi_rows_from : BindsF "rows_from" s_rows_from P_rows_from := fun _ _ _ _ _ _ us hl => match us, hl with | [_, _], _ => rfl
theorem sc_tree_from : FnScope N_tree_from P_tree_from (defScope s_tree_from) := ⟨rfl, rfl, rfl, by decide +kernel, rfl, by decide +kernel, by decide +kernel⟩
theorem bi_tree_from : BindsF "tree_from" s_tree_from P_tree_from := fun _ _ _ _ _ _ us hl => match us, hl with | [_, _], _ => rfl
theorem okc_row_from (T : Txt K mg) {fA_row_from : Addr} {fd_row_from : FuncData} (D_row_from : DefIn K mg "row_from" s_row_from fA_row_from fd_row_from) {fA_rows_from : Addr} {fd_rows_from : FuncData} (D_rows_from : DefIn K mg "rows_from" s_rows_from fA_rows_from fd_rows_from) {fA_tree_from : Addr} {fd_tree_from : FuncData} (D_tree_from : DefIn K mg "tree_from" s_tree_from fA_tree_from fd_tree_from) (C_move_in : DFn P w K mg base "move_in" 3 [false] .f Mi.move_in) : ∀ n, DFn P w K mg base "row_from" (3 + n) [false, false] .f (Mi.row_from n) ∧ DFn P w K mg base "rows_from" (3 + n) [false, false] .f (Mi.rows_from n) ∧ DFn P w K mg base "tree_from" (3 + n) [false, false] .f (Mi.tree_from n)
  | 0 => ⟨dfn_stuck D_row_from bi_row_from, dfn_stuck D_rows_from bi_rows_from, dfn_stuck D_tree_from bi_tree_from⟩
  | n + 1 => by
    obtain ⟨C_row_from, C_rows_from, C_tree_from⟩ := okc_row_from T D_row_from D_rows_from D_tree_from C_move_in n
    exact ⟨dfn_ok (k := 3 + n) D_row_from sc_row_from rfl bi_row_from fun cdv A outer s H E H0 pr pf hr tk => by
        have sc := sc_row_from; have hu := hr.units; have hv := room_hv hr
        exact (dss_cons (ds_set 2 (pf 2 rfl) sc.nd rfl (.inl rfl) (de_bm rfl PySem.F.plainAttrs_str PySem.F.slot_str_find PySem.F.type_str_find mt_find3 mv_find3 (de_var 0 rfl (.inl rfl)) (da_cons de_str (da_cons (de_var 1 rfl (.inl rfl)) da_nil))))
      (dss_cons (ds_if (dt_cmp (op_ltA hv) opd_ltA (de_var 2 rfl (.inl rfl)) de_int (nomark _)) (dss_one (ds_raises rfl rfl tk (T.exs.exc "BadText" rfl) rfl)) dss_nil)
      (dss_cons (ds_asg (de_calls rfl rfl tk C_tree_from hr (by omega) rfl (dg_d (de_var 0 rfl (.inl rfl)) (dg_d (de_op op_addU opd_add (de_var 2 rfl (.inl rfl)) de_int) dg_nil))) (dg_tup rfl rfl (dgs_cons (dg_name 3 (pf 3 rfl) sc.nd rfl (.inl rfl)) (dgs_cons (dg_name 4 (pf 4 rfl) sc.nd rfl (.inl rfl)) dgs_nil))))
      (dss_one (ds_ret (de_tup (da_cons (de_calls rfl rfl tk C_move_in hr (by omega) rfl (dg_d (de_slice rfl (de_var 0 rfl (.inl rfl)) (dp_some (de_var 1 rfl (.inl rfl))) (dp_some (de_var 2 rfl (.inl rfl)))) dg_nil)) (da_cons (de_var 3 rfl (.inl rfl)) (da_cons (de_var 4 rfl (.inl rfl)) da_nil))))))))),
      dfn_ok (k := 3 + n) D_rows_from sc_rows_from rfl bi_rows_from fun cdv A outer s H E H0 pr pf hr tk => by
        have sc := sc_rows_from; have hu := hr.units; have hv := room_hv hr
        exact (dss_cons (ds_asg (de_calls rfl rfl tk C_row_from hr (by omega) rfl (dg_d (de_var 0 rfl (.inl rfl)) (dg_d (de_var 1 rfl (.inl rfl)) dg_nil))) (dg_tup rfl rfl (dgs_cons (dg_name 2 (pf 2 rfl) sc.nd rfl (.inl rfl)) (dgs_cons (dg_name 3 (pf 3 rfl) sc.nd rfl (.inl rfl)) (dgs_cons (dg_name 1 (pf 1 rfl) sc.nd rfl (.inl rfl)) dgs_nil)))))
      (dss_cons (ds_setO 4 (pf 4 rfl) sc.nd rfl (.inl rfl) (do_lst (da_cons (de_tup (da_cons (de_var 2 rfl (.inl rfl)) (da_cons (de_var 3 rfl (.inl rfl)) da_nil))) da_nil)))
      (dss_cons (ds_while 100000 (passes_of rfl) (dt_cmp (op_eqD hu) opd_eq (de_slice rfl (de_var 0 rfl (.inl rfl)) (dp_some (de_var 1 rfl (.inl rfl))) (dp_some (de_op op_addU opd_add (de_var 1 rfl (.inl rfl)) de_int))) de_str (nomark _)) (dss_cons (ds_asg (de_calls rfl rfl tk C_row_from hr (by omega) rfl (dg_d (de_var 0 rfl (.inl rfl)) (dg_d (de_op op_addU opd_add (de_var 1 rfl (.inl rfl)) de_int) dg_nil))) (dg_tup rfl rfl (dgs_cons (dg_name 2 (pf 2 rfl) sc.nd rfl (.inl rfl)) (dgs_cons (dg_name 3 (pf 3 rfl) sc.nd rfl (.inl rfl)) (dgs_cons (dg_name 1 (pf 1 rfl) sc.nd rfl (.inl rfl)) dgs_nil)))))
      (dss_one (ds_expr (de_bmO (id := "append") (T := "list") 4 PySem.F.slot_list_append PySem.F.type_list_append mt_append mo_append (da_cons (de_tup (da_cons (de_var 2 rfl (.inl rfl)) (da_cons (de_var 3 rfl (.inl rfl)) da_nil))) da_nil) rfl (.inl rfl))))))
      (dss_cons (ds_if (dt_cmp (op_neD hu) opd_ne (de_slice rfl (de_var 0 rfl (.inl rfl)) (dp_some (de_var 1 rfl (.inl rfl))) (dp_some (de_op op_addU opd_add (de_var 1 rfl (.inl rfl)) de_int))) de_str (nomark _)) (dss_one (ds_raises rfl rfl tk (T.exs.exc "BadText" rfl) rfl)) dss_nil)
      (dss_one (ds_ret (de_tup (da_cons (de_tup (da_cons de_str (da_cons (de_rd 4 (pf 4 rfl) rfl (.inl rfl)) da_nil))) (da_cons (de_op op_addU opd_add (de_var 1 rfl (.inl rfl)) de_int) da_nil))))))))),
      dfn_ok (k := 3 + n) D_tree_from sc_tree_from rfl bi_tree_from fun cdv A outer s H E H0 pr pf hr tk => by
        have sc := sc_tree_from; have hu := hr.units; have hv := room_hv hr
        exact (dss_cons (ds_set 2 (pf 2 rfl) sc.nd rfl (.inl rfl) (de_slice rfl (de_var 0 rfl (.inl rfl)) (dp_some (de_var 1 rfl (.inl rfl))) (dp_some (de_op op_addU opd_add (de_var 1 rfl (.inl rfl)) de_int))))
      (dss_cons (ds_if (dt_cmp (op_eqD hu) opd_eq (de_var 2 rfl (.inl rfl)) de_str (nomark _)) (dss_one (ds_ret (de_tup (da_cons (de_tup (da_cons de_str da_nil)) (da_cons (de_op op_addU opd_add (de_var 1 rfl (.inl rfl)) de_int) da_nil))))) dss_nil)
      (dss_cons (ds_if (dt_cmp (op_eqD hu) opd_eq (de_var 2 rfl (.inl rfl)) de_str (nomark _)) (dss_one (ds_ret (de_tup (da_cons (de_tup (da_cons de_str da_nil)) (da_cons (de_op op_addU opd_add (de_var 1 rfl (.inl rfl)) de_int) da_nil))))) dss_nil)
      (dss_cons (ds_if (dt_cmp (op_eqD hu) opd_eq (de_var 2 rfl (.inl rfl)) de_str (nomark _)) (dss_one (ds_ret (de_calls rfl rfl tk C_rows_from hr (by omega) rfl (dg_d (de_var 0 rfl (.inl rfl)) (dg_d (de_op op_addU opd_add (de_var 1 rfl (.inl rfl)) de_int) dg_nil))))) dss_nil)
      (dss_cons (ds_if (dt_cmp (op_neD hu) opd_ne (de_var 2 rfl (.inl rfl)) de_str (nomark _)) (dss_one (ds_raises rfl rfl tk (T.exs.exc "BadText" rfl) rfl)) dss_nil)
      (dss_cons (ds_asg (de_calls rfl rfl tk C_row_from hr (by omega) rfl (dg_d (de_var 0 rfl (.inl rfl)) (dg_d (de_op op_addU opd_add (de_var 1 rfl (.inl rfl)) de_int) dg_nil))) (dg_tup rfl rfl (dgs_cons (dg_name 3 (pf 3 rfl) sc.nd rfl (.inl rfl)) (dgs_cons (dg_name 4 (pf 4 rfl) sc.nd rfl (.inl rfl)) (dgs_cons (dg_name 5 (pf 5 rfl) sc.nd rfl (.inl rfl)) dgs_nil)))))
      (dss_cons (ds_if (dt_cmp (op_neD hu) opd_ne (de_slice rfl (de_var 0 rfl (.inl rfl)) (dp_some (de_var 5 rfl (.inl rfl))) (dp_some (de_op op_addU opd_add (de_var 5 rfl (.inl rfl)) de_int))) de_str (nomark _)) (dss_one (ds_raises rfl rfl tk (T.exs.exc "BadText" rfl) rfl)) dss_nil)
      (dss_one (ds_ret (de_tup (da_cons (de_tup (da_cons de_str (da_cons (de_var 3 rfl (.inl rfl)) (da_cons (de_var 4 rfl (.inl rfl)) da_nil)))) (da_cons (de_op op_addU opd_add (de_var 5 rfl (.inl rfl)) de_int) da_nil))))))))))))⟩
theorem okN_is_tree (T : Txt K mg) {fA : Addr} {fd : FuncData} (Dn : DefIn K mg "is_tree" s_is_tree fA fd) : ∀ n, DLN.DFn P w K mg base "is_tree" (0 + n) [false, false] .f (Mi.is_tree n)
  | 0 => DLN.dfn_stuck Dn bi_is_tree
  | n + 1 => by
    have CN_is_tree := okN_is_tree T Dn n
    exact DLN.dfn_ok (k := 0 + n) Dn sc_is_tree rfl bi_is_tree fun cdv A outer s H E H0 pr pf hr tk => by
      have sc := sc_is_tree; have hu := hr.units; have hv := room_hv hr
      exact (dss_cons (ds_if (dt_cmp (op_eqD hu) opd_eq (de_var 0 rfl (.inl rfl)) (de_tup (da_cons (de_var 1 rfl (.inr (.inl rfl))) da_nil)) (nomark _)) (dss_one (ds_ret de_bl)) dss_nil)
      (dss_cons (ds_if (dt_w (dw_and (dt_cmp (op_eqD hu) opd_eq (de_callB (callR_or call_len call_lenF) (cd_len.or cd_lenK) rfl T.n_len (by decide +kernel) (da_cons (de_var 0 rfl (.inl rfl)) da_nil)) de_int (nomark _)) (dw_and1 (dt_cmp (op_eqD hu) opd_eq (de_ix (ix_X hv) opd_ixX (de_var 0 rfl (.inl rfl)) de_int) de_str (nomark _))))) (dss_one (ds_ret (DLN.de_calls rfl rfl tk CN_is_tree hr (by omega) rfl (dg_d (de_ix (ix_X hv) opd_ixX (de_var 0 rfl (.inl rfl)) de_int) (dg_d (de_var 1 rfl (.inr (.inl rfl))) dg_nil))))) dss_nil)
      (dss_cons (ds_if (dt_w (dw_and (dt_cmp (op_eqD hu) opd_eq (de_callB (callR_or call_len call_lenF) (cd_len.or cd_lenK) rfl T.n_len (by decide +kernel) (da_cons (de_var 0 rfl (.inl rfl)) da_nil)) de_int (nomark _)) (dw_and (dt_cmp (op_eqD hu) opd_eq (de_ix (ix_X hv) opd_ixX (de_var 0 rfl (.inl rfl)) de_int) de_str (nomark _)) (dw_and1 (dt_cmp (op_gtA hv) opd_gtA (de_callB (callR_or call_len call_lenF) (cd_len.or cd_lenK) rfl T.n_len (by decide +kernel) (da_cons (de_ix (ix_X hv) opd_ixX (de_var 0 rfl (.inl rfl)) de_int) da_nil)) de_int (nomark _)))))) (dss_one (ds_ret (de_callB (cr_all rfl) cd_all rfl T.n_all (by decide +kernel) (da_cons (de_fz (do_lc rfl sc.nd (di_gen rfl (de_ix (ix_X hv) opd_ixX (de_var 0 rfl (.inl rfl)) de_int)) (blkOk_by (N := N_is_tree) (sc := defScope s_is_tree) (own := [("row", 2)]) (by decide +kernel)) rfl rfl (fun _ _ _ _ _ _ => (dg_name 2 (pf 2 rfl) sc.nd rfl (.inl rfl))) (fun _ _ _ _ _ _ => dts_nil) (fun _ _ _ _ _ _ => (DLN.de_calls rfl rfl DLN.takes0 CN_is_tree hr (by omega) rfl (dg_d (de_ix (ix_X hv) opd_ixX (de_var 2 rfl (.inl rfl)) de_int) (dg_d (de_var 1 rfl (.inr (.inl rfl))) dg_nil)))))) da_nil)))) dss_nil)
      (dss_one (ds_ret de_bl)))))
theorem okN_check_either (T : Txt K mg) {fA : Addr} {fd : FuncData} (Dn : DefIn K mg "check_either" s_check_either fA fd) (CN_is_tree : DLN.DFn P w K mg base "is_tree" 40 [false, false] .f (Mi.is_tree 40)) : DLN.DFn P w K mg base "check_either" 41 [false] .f Mi.check_either2 :=
  DLN.dfn_ok (k := 40) Dn sc_check_either rfl bi_check_either fun cdv A outer s H E H0 pr pf hr tk => by
    have sc := sc_check_either; have hu := hr.units; have hv := room_hv hr
    exact (dss_one (ds_if (dt_w (dw_and (dt_not (dt_val (DLN.de_calls rfl rfl tk CN_is_tree hr (by decide) rfl (dg_d (de_var 0 rfl (.inl rfl)) (dg_d (de_globS rfl T.c_WON) dg_nil))))) (dw_and1 (dt_not (dt_val (DLN.de_calls rfl rfl tk CN_is_tree hr (by decide) rfl (dg_d (de_var 0 rfl (.inl rfl)) (dg_d (de_globS rfl T.c_NOT) dg_nil)))))))) (dss_one (DLN.ds_raises rfl rfl tk (T.exs.exc "BadPaper" rfl) rfl)) dss_nil))
theorem okN_depth_of (T : Txt K mg) {fA : Addr} {fd : FuncData} (Dn : DefIn K mg "depth_of" s_depth_of fA fd) : ∀ n, DLN.DFn P w K mg base "depth_of" (0 + n) [false] .f (Mi.depth_of n)
  | 0 => DLN.dfn_stuck Dn bi_depth_of
  | n + 1 => by
    have CN_depth_of := okN_depth_of T Dn n
    exact DLN.dfn_ok (k := 0 + n) Dn sc_depth_of rfl bi_depth_of fun cdv A outer s H E H0 pr pf hr tk => by
      have sc := sc_depth_of; have hu := hr.units; have hv := room_hv hr
      exact (dss_cons (ds_if (dt_cmp (op_eqD hu) opd_eq (de_ix (ix_X hv) opd_ixX (de_var 0 rfl (.inl rfl)) de_int) de_str (nomark _)) (dss_one (ds_ret (de_op op_addU opd_add de_int (DLN.de_calls rfl rfl tk CN_depth_of hr (by omega) rfl (dg_d (de_ix (ix_X hv) opd_ixX (de_var 0 rfl (.inl rfl)) de_int) dg_nil))))) dss_nil)
      (dss_cons (ds_if (dt_cmp (op_eqD hu) opd_eq (de_ix (ix_X hv) opd_ixX (de_var 0 rfl (.inl rfl)) de_int) de_str (nomark _)) (dss_one (ds_ret (de_op op_addU opd_add de_int (de_callB (cr_max rfl) cd_maxL rfl T.n_max (by decide +kernel) (da_cons (de_fz (do_lc rfl sc.nd (di_gen rfl (de_ix (ix_X hv) opd_ixX (de_var 0 rfl (.inl rfl)) de_int)) (blkOk_by (N := N_depth_of) (sc := defScope s_depth_of) (own := [("row", 1)]) (by decide +kernel)) rfl rfl (fun _ _ _ _ _ _ => (dg_name 1 (pf 1 rfl) sc.nd rfl (.inl rfl))) (fun _ _ _ _ _ _ => dts_nil) (fun _ _ _ _ _ _ => (DLN.de_calls rfl rfl DLN.takes0 CN_depth_of hr (by omega) rfl (dg_d (de_ix (ix_X hv) opd_ixX (de_var 1 rfl (.inl rfl)) de_int) dg_nil))))) da_nil))))) dss_nil)
      (dss_one (ds_ret de_int))))
theorem okN_depth (T : Txt K mg) {fA : Addr} {fd : FuncData} (Dn : DefIn K mg "depth" s_depth fA fd) (CN_depth_of : DLN.DFn P w K mg base "depth_of" 40 [false] .f (Mi.depth_of 40)) (CN_check_either : DLN.DFn P w K mg base "check_either" 41 [false] .f Mi.check_either2) : DLN.DFn P w K mg base "depth" 42 [false] .f Mi.depth2 :=
  DLN.dfn_ok (k := 41) Dn sc_depth rfl bi_depth fun cdv A outer s H E H0 pr pf hr tk => by
    have sc := sc_depth; have hu := hr.units; have hv := room_hv hr
    exact (dss_cons (ds_expr (DLN.de_calls rfl rfl tk CN_check_either hr (by decide) rfl (dg_d (de_var 0 rfl (.inl rfl)) dg_nil)))
      (dss_one (ds_ret (DLN.de_calls rfl rfl tk CN_depth_of hr (by decide) rfl (dg_d (de_var 0 rfl (.inl rfl)) dg_nil)))))
theorem sc_read_tree : FnScope N_read_tree P_read_tree (defScope s_read_tree) := ⟨rfl, rfl, rfl, by decide +kernel, rfl, by decide +kernel, by decide +kernel⟩
theorem bi_read_tree : BindsF "read_tree" s_read_tree P_read_tree := fun _ _ _ _ _ _ us hl => match us, hl with | [_], _ => rfl
theorem ok_read_tree (T : Txt K mg) {fA : Addr} {fd : FuncData} (Dn : DefIn K mg "read_tree" s_read_tree fA fd) (C_depth : DFn P w K mg base "depth" 42 [false] .f Mi.depth2) (C_tree_from : DFn P w K mg base "tree_from" 143 [false, false] .f (Mi.tree_from 140)) (CN_depth : DLN.DFn P w K mg base "depth" 42 [false] .f Mi.depth2) : DFn P w K mg base "read_tree" 144 [false] .f Mi.read_tree :=
  dfn_ok (k := 143) Dn sc_read_tree rfl bi_read_tree fun cdv A outer s H E H0 pr pf hr tk => by
    have sc := sc_read_tree; have hu := hr.units; have hv := room_hv hr
    exact (dss_cons (ds_if (dt_cmp (op_gtA hv) opd_gtA (de_op op_addU opd_add (de_bm rfl PySem.F.plainAttrs_str PySem.F.slot_str_count PySem.F.type_str_count mt_count mv_countT (de_var 0 rfl (.inl rfl)) (da_cons de_str da_nil)) (de_bm rfl PySem.F.plainAttrs_str PySem.F.slot_str_count PySem.F.type_str_count mt_count mv_countT (de_var 0 rfl (.inl rfl)) (da_cons de_str da_nil))) de_int (nomark _)) (dss_one (ds_raises rfl rfl tk (T.exs.exc "BadText" rfl) rfl)) dss_nil)
      (dss_cons (ds_asg (de_calls rfl rfl tk C_tree_from hr (by decide) rfl (dg_d (de_var 0 rfl (.inl rfl)) (dg_d de_int dg_nil))) (dg_tup rfl rfl (dgs_cons (dg_name 1 (pf 1 rfl) sc.nd rfl (.inl rfl)) (dgs_cons (dg_name 2 (pf 2 rfl) sc.nd rfl (.inl rfl)) dgs_nil))))
      (dss_cons (ds_if (dt_cmp (op_neD hu) opd_ne (de_var 2 rfl (.inl rfl)) (de_callB (callR_or call_len call_lenF) (cd_len.or cd_lenK) rfl T.n_len (by decide +kernel) (da_cons (de_var 0 rfl (.inl rfl)) da_nil)) (nomark _)) (dss_one (ds_raises rfl rfl tk (T.exs.exc "BadText" rfl) rfl)) dss_nil)
      (dss_cons (ds_try0X rfl T.exs rfl rfl (by decide) rfl rfl (L2H.passesAt_of rfl) tk (fun W1 pn1 xe1 tk1 po1 => (dss_one (ds_set 3 (pf 3 rfl) sc.nd rfl (.inl rfl) (DLN.de_calls rfl rfl tk1 CN_depth hr (by decide) rfl (dg_d (de_var 1 rfl (.inl rfl)) dg_nil)))))
      (fun a1 oe1 pn1 tkS hot1 => (dss_one (ds_raisesH rfl hot1 tkS (T.exs.exc "BadText" rfl) rfl))))
      (dss_cons (ds_if (dt_cmp (op_gtA hv) opd_gtA (de_var 3 rfl (.inl rfl)) (de_globI rfl T.c_MOST_DEPTH) (nomark _)) (dss_one (ds_raises rfl rfl tk (T.exs.exc "BadText" rfl) rfl)) dss_nil)
      (dss_one (ds_ret (de_var 1 rfl (.inl rfl)))))))))
theorem sc_law_cell_at : FnScope N_law_cell_at P_law_cell_at (defScope s_law_cell_at) := ⟨rfl, rfl, rfl, by decide +kernel, rfl, by decide +kernel, by decide +kernel⟩
theorem bi_law_cell_at : BindsF "_law_cell_at" s_law_cell_at P_law_cell_at := fun _ _ _ _ _ _ us hl => match us, hl with | [_, _], _ => rfl
theorem ok_law_cell_at (T : Txt K mg) {fA : Addr} {fd : FuncData} (Dn : DefIn K mg "_law_cell_at" s_law_cell_at fA fd) : DFn P w K mg base "_law_cell_at" 1 [false, false] .f Mi.law_cell_at :=
  dfn_ok (k := 0) Dn sc_law_cell_at rfl bi_law_cell_at fun cdv A outer s H E H0 pr pf hr tk => by
    have sc := sc_law_cell_at; have hu := hr.units; have hv := room_hv hr
    exact (dss_cons (ds_if (dt_cmp (op_ltA hv) opd_ltA (de_var 1 rfl (.inl rfl)) (de_callB (callR_or call_len call_lenF) (cd_len.or cd_lenK) rfl T.n_len (by decide +kernel) (da_cons (de_var 0 rfl (.inl rfl)) da_nil)) (nomark _)) (dss_one (ds_ret (de_ix (ix_X hv) opd_ixX (de_var 0 rfl (.inl rfl)) (de_var 1 rfl (.inl rfl))))) dss_nil)
      (dss_one (ds_ret de_int)))
theorem sc_law_mix : FnScope N_law_mix P_law_mix (defScope s_law_mix) := ⟨rfl, rfl, rfl, by decide +kernel, rfl, by decide +kernel, by decide +kernel⟩
theorem bi_law_mix : BindsF "_law_mix" s_law_mix P_law_mix := fun _ _ _ _ _ _ us hl => match us, hl with | [_, _, _], _ => rfl
theorem ok_law_mix (T : Txt K mg) {fA : Addr} {fd : FuncData} (Dn : DefIn K mg "_law_mix" s_law_mix fA fd) : DFn P w K mg base "_law_mix" 1 [false, false, false] .f Mi.law_mix :=
  dfn_ok (k := 0) Dn sc_law_mix rfl bi_law_mix fun cdv A outer s H E H0 pr pf hr tk => by
    have sc := sc_law_mix; have hu := hr.units; have hv := room_hv hr
    exact (dss_cons (ds_set 3 (pf 3 rfl) sc.nd rfl (.inl rfl) (de_fz (do_lst (da_cons de_int (da_cons de_int (da_cons de_int (da_cons de_int (da_cons de_int (da_cons de_int (da_cons de_int (da_cons de_int (da_cons de_int (da_cons de_int (da_cons de_int (da_cons de_int (da_cons de_int da_nil))))))))))))))))
      (dss_cons (ds_set 4 (pf 4 rfl) sc.nd rfl (.inl rfl) (de_op op_addU opd_add (de_op op_addU opd_add (de_op op_mul opd_mul (de_op op_addU opd_add (de_op op_mod opd_mod (de_var 0 rfl (.inl rfl)) de_int) de_int) (de_ix (ix_X hv) opd_ixX (de_var 3 rfl (.inl rfl)) (de_op op_mod opd_mod (de_var 1 rfl (.inl rfl)) de_int))) (de_op op_mul opd_mul de_int (de_var 1 rfl (.inl rfl)))) (de_op op_mul opd_mul de_int (de_op op_fdiv opd_div (de_var 1 rfl (.inl rfl)) de_int))))
      (dss_cons (ds_set 4 (pf 4 rfl) sc.nd rfl (.inl rfl) (de_op op_mod opd_mod (de_var 4 rfl (.inl rfl)) de_int))
      (dss_one (ds_ret (de_op op_mod opd_mod (de_op op_fdiv opd_div (de_op op_mod opd_mod (de_op op_addU opd_add (de_op op_mul opd_mul (de_var 4 rfl (.inl rfl)) (de_var 4 rfl (.inl rfl))) (de_op op_mul opd_mul de_int (de_var 1 rfl (.inl rfl)))) de_int) de_int) (de_var 2 rfl (.inl rfl))))))))
theorem sc_law_list : FnScope N_law_list P_law_list (defScope s_law_list) := ⟨rfl, rfl, rfl, by decide +kernel, rfl, by decide +kernel, by decide +kernel⟩
theorem bi_law_list : BindsF "_law_list" s_law_list P_law_list := fun _ _ _ _ _ _ us hl => match us, hl with | [_, _, _], _ => rfl
theorem ok_law_list (T : Txt K mg) {fA : Addr} {fd : FuncData} (Dn : DefIn K mg "_law_list" s_law_list fA fd) (C_law_mix : DFn P w K mg base "_law_mix" 1 [false, false, false] .f Mi.law_mix) : DFn P w K mg base "_law_list" 2 [false, false, false] .f Mi.law_list :=
  dfn_ok (k := 1) Dn sc_law_list rfl bi_law_list fun cdv A outer s H E H0 pr pf hr tk => by
    have sc := sc_law_list; have hu := hr.units; have hv := room_hv hr
    exact (dss_cons (ds_set 3 (pf 3 rfl) sc.nd rfl (.inl rfl) (de_op op_sub opd_sub (de_var 0 rfl (.inl rfl)) (de_op op_pow opd_pow de_int de_int)))
      (dss_cons (ds_setO 4 (pf 4 rfl) sc.nd rfl (.inl rfl) (do_lst da_nil))
      (dss_cons (ds_for (passes_of rfl) rfl (di_range1 rfl T.n_range (da_cons (de_var 1 rfl (.inl rfl)) da_nil)) (dg_name 5 (pf 5 rfl) sc.nd rfl (.inl rfl)) (dss_one (ds_if (dt_cmp (op_geA hv) opd_geA (de_var 3 rfl (.inl rfl)) de_int (nomark _)) (dss_cons (ds_expr (de_bmO (id := "append") (T := "list") 4 PySem.F.slot_list_append PySem.F.type_list_append mt_append mo_append (da_cons (de_op op_mod opd_mod (de_var 3 rfl (.inl rfl)) (de_var 2 rfl (.inl rfl))) da_nil) rfl (.inl rfl)))
      (dss_one (ds_set 3 (pf 3 rfl) sc.nd rfl (.inl rfl) (de_op op_fdiv opd_div (de_var 3 rfl (.inl rfl)) (de_var 2 rfl (.inl rfl)))))) (dss_one (ds_expr (de_bmO (id := "append") (T := "list") 4 PySem.F.slot_list_append PySem.F.type_list_append mt_append mo_append (da_cons (de_calls rfl rfl tk C_law_mix hr (by decide) rfl (dg_d (de_var 0 rfl (.inl rfl)) (dg_d (de_var 5 rfl (.inl rfl)) (dg_d (de_var 2 rfl (.inl rfl)) dg_nil)))) da_nil) rfl (.inl rfl)))))))
      (dss_one (ds_ret (de_rd 4 (pf 4 rfl) rfl (.inl rfl)))))))
theorem sc_law_cell_text : FnScope N_law_cell_text P_law_cell_text (defScope s_law_cell_text) := ⟨rfl, rfl, rfl, by decide +kernel, rfl, by decide +kernel, by decide +kernel⟩
theorem bi_law_cell_text : BindsF "_law_cell_text" s_law_cell_text P_law_cell_text := fun _ _ _ _ _ _ us hl => match us, hl with | [_], _ => rfl
theorem ok_law_cell_text (T : Txt K mg) {fA : Addr} {fd : FuncData} (Dn : DefIn K mg "_law_cell_text" s_law_cell_text fA fd) : DFn P w K mg base "_law_cell_text" 1 [false] .f Mi.law_cell_text :=
  dfn_ok (k := 0) Dn sc_law_cell_text rfl bi_law_cell_text fun cdv A outer s H E H0 pr pf hr tk => by
    have sc := sc_law_cell_text; have hu := hr.units; have hv := room_hv hr
    exact (dss_one (ds_ret (de_op op_addU opd_add (de_op op_addU opd_add (de_callTy call_str_int cd_str rfl T.n_str (by decide +kernel) (da_cons (de_ix (ix_X hv) opd_ixX (de_var 0 rfl (.inl rfl)) de_int) da_nil)) de_str) (de_callTy call_str_int cd_str rfl T.n_str (by decide +kernel) (da_cons (de_ix (ix_X hv) opd_ixX (de_var 0 rfl (.inl rfl)) de_int) da_nil)))))
theorem sc_law_line_text : FnScope N_law_line_text P_law_line_text (defScope s_law_line_text) := ⟨rfl, rfl, rfl, by decide +kernel, rfl, by decide +kernel, by decide +kernel⟩
theorem bi_law_line_text : BindsF "_law_line_text" s_law_line_text P_law_line_text := fun _ _ _ _ _ _ us hl => match us, hl with | [_], _ => rfl
theorem ok_law_line_text (T : Txt K mg) {fA : Addr} {fd : FuncData} (Dn : DefIn K mg "_law_line_text" s_law_line_text fA fd) (C_law_cell_text : DFn P w K mg base "_law_cell_text" 1 [false] .f Mi.law_cell_text) : DFn P w K mg base "_law_line_text" 2 [false] .f Mi.law_line_text :=
  dfn_ok (k := 1) Dn sc_law_line_text rfl bi_law_line_text fun cdv A outer s H E H0 pr pf hr tk => by
    have sc := sc_law_line_text; have hu := hr.units; have hv := room_hv hr
    exact (dss_cons (ds_set 1 (pf 1 rfl) sc.nd rfl (.inl rfl) de_str)
      (dss_cons (ds_for (passes_of rfl) rfl (di_gen rfl (de_var 0 rfl (.inl rfl))) (dg_name 2 (pf 2 rfl) sc.nd rfl (.inl rfl)) (dss_cons (ds_set 3 (pf 3 rfl) sc.nd rfl (.inl rfl) (de_ix (ix_X hv) opd_ixX (de_fz (do_lst (da_cons de_str (da_cons de_str da_nil)))) (de_callTy call_int1 cd_int rfl T.n_int (by decide +kernel) (da_cons (de_cmp (op_eqD hu) opd_eq (de_var 1 rfl (.inl rfl)) de_str (nomark _)) da_nil))))
      (dss_one (ds_set 1 (pf 1 rfl) sc.nd rfl (.inl rfl) (de_op op_addU opd_add (de_op op_addU opd_add (de_op op_addU opd_add (de_op op_addU opd_add (de_var 1 rfl (.inl rfl)) (de_var 3 rfl (.inl rfl))) (de_calls rfl rfl tk C_law_cell_text hr (by decide) rfl (dg_d (de_ix (ix_X hv) opd_ixX (de_var 2 rfl (.inl rfl)) de_int) dg_nil))) de_str) (de_calls rfl rfl tk C_law_cell_text hr (by decide) rfl (dg_d (de_ix (ix_X hv) opd_ixX (de_var 2 rfl (.inl rfl)) de_int) dg_nil)))))))
      (dss_one (ds_ret (de_var 1 rfl (.inl rfl))))))
theorem sc_law_tree_by : FnScope N_law_tree_by P_law_tree_by (defScope s_law_tree_by) := ⟨rfl, rfl, rfl, by decide +kernel, rfl, by decide +kernel, by decide +kernel⟩
theorem bi_law_tree_by : BindsF "_law_tree_by" s_law_tree_by P_law_tree_by := fun _ _ _ _ _ _ us hl => match us, hl with | [_, _, _], _ => rfl
theorem ok_law_tree_by (T : Txt K mg) {fA : Addr} {fd : FuncData} (Dn : DefIn K mg "_law_tree_by" s_law_tree_by fA fd) (C_law_mix : DFn P w K mg base "_law_mix" 1 [false, false, false] .f Mi.law_mix) (C_law_list : DFn P w K mg base "_law_list" 2 [false, false, false] .f Mi.law_list) : ∀ n, DFn P w K mg base "_law_tree_by" (2 + n) [false, false, false] .f (Mi.law_tree_by n)
  | 0 => dfn_stuck Dn bi_law_tree_by
  | n + 1 => by
    have C_law_tree_by := ok_law_tree_by T Dn C_law_mix C_law_list n
    exact dfn_ok (k := 2 + n) Dn sc_law_tree_by rfl bi_law_tree_by fun cdv A outer s H E H0 pr pf hr tk => by
      have sc := sc_law_tree_by; have hu := hr.units; have hv := room_hv hr
      exact (dss_cons (ds_set 3 (pf 3 rfl) sc.nd rfl (.inl rfl) (de_calls rfl rfl tk C_law_list hr (by omega) rfl (dg_d (de_var 0 rfl (.inl rfl)) (dg_d de_int (dg_d de_int dg_nil)))))
      (dss_cons (ds_if (dt_w (dw_or (dt_cmp (op_eqD hu) opd_eq (de_var 2 rfl (.inl rfl)) de_int (nomark _)) (dw_or1 (dt_cmp (op_eqD hu) opd_eq (de_op op_mod opd_mod (de_ix (ix_X hv) opd_ixX (de_var 3 rfl (.inl rfl)) de_int) de_int) de_int (nomark _))))) (dss_one (ds_ret (de_tup (da_cons (de_var 1 rfl (.inl rfl)) da_nil)))) dss_nil)
      (dss_cons (ds_set 4 (pf 4 rfl) sc.nd rfl (.inl rfl) (de_tup (da_cons (de_tup (da_cons (de_op op_mod opd_mod (de_ix (ix_X hv) opd_ixX (de_var 3 rfl (.inl rfl)) de_int) de_int) (da_cons (de_op op_mod opd_mod (de_ix (ix_X hv) opd_ixX (de_var 3 rfl (.inl rfl)) de_int) de_int) da_nil))) (da_cons (de_tup (da_cons (de_op op_mod opd_mod (de_ix (ix_X hv) opd_ixX (de_var 3 rfl (.inl rfl)) de_int) de_int) (da_cons (de_op op_mod opd_mod (de_ix (ix_X hv) opd_ixX (de_var 3 rfl (.inl rfl)) de_int) de_int) da_nil))) da_nil))))
      (dss_cons (ds_if (dt_cmp (op_eqD hu) opd_eq (de_op op_mod opd_mod (de_ix (ix_X hv) opd_ixX (de_var 3 rfl (.inl rfl)) de_int) de_int) de_int (nomark _)) (dss_one (ds_ret (de_tup (da_cons de_str (da_cons (de_var 4 rfl (.inl rfl)) (da_cons (de_calls rfl rfl tk C_law_tree_by hr (by omega) rfl (dg_d (de_calls rfl rfl tk C_law_mix hr (by omega) rfl (dg_d (de_var 0 rfl (.inl rfl)) (dg_d de_int (dg_d (de_op op_pow opd_pow de_int de_int) dg_nil)))) (dg_d (de_var 1 rfl (.inl rfl)) (dg_d (de_op op_sub opd_sub (de_var 2 rfl (.inl rfl)) de_int) dg_nil)))) da_nil)))))) dss_nil)
      (dss_cons (ds_setO 5 (pf 5 rfl) sc.nd rfl (.inl rfl) (do_lst da_nil))
      (dss_cons (ds_for (passes_of rfl) rfl (di_range1 rfl T.n_range (da_cons (de_op op_addU opd_add de_int (de_op op_mod opd_mod (de_ix (ix_X hv) opd_ixX (de_var 3 rfl (.inl rfl)) de_int) de_int)) da_nil)) (dg_name 6 (pf 6 rfl) sc.nd rfl (.inl rfl)) (dss_cons (ds_set 7 (pf 7 rfl) sc.nd rfl (.inl rfl) (de_tup (da_cons (de_tup (da_cons (de_var 6 rfl (.inl rfl)) (da_cons (de_op op_mod opd_mod (de_ix (ix_X hv) opd_ixX (de_var 3 rfl (.inl rfl)) de_int) de_int) da_nil))) (da_cons (de_tup (da_cons (de_op op_mod opd_mod (de_ix (ix_X hv) opd_ixX (de_var 3 rfl (.inl rfl)) de_int) de_int) (da_cons (de_var 6 rfl (.inl rfl)) da_nil))) da_nil))))
      (dss_one (ds_expr (de_bmO (id := "append") (T := "list") 5 PySem.F.slot_list_append PySem.F.type_list_append mt_append mo_append (da_cons (de_tup (da_cons (de_var 7 rfl (.inl rfl)) (da_cons (de_calls rfl rfl tk C_law_tree_by hr (by omega) rfl (dg_d (de_calls rfl rfl tk C_law_mix hr (by omega) rfl (dg_d (de_var 0 rfl (.inl rfl)) (dg_d (de_op op_addU opd_add de_int (de_var 6 rfl (.inl rfl))) (dg_d (de_op op_pow opd_pow de_int de_int) dg_nil)))) (dg_d (de_var 1 rfl (.inl rfl)) (dg_d (de_op op_sub opd_sub (de_var 2 rfl (.inl rfl)) de_int) dg_nil)))) da_nil))) da_nil) rfl (.inl rfl))))))
      (dss_one (ds_ret (de_tup (da_cons de_str (da_cons (de_rd 5 (pf 5 rfl) rfl (.inl rfl)) da_nil)))))))))))
theorem sc_law_tree_text : FnScope N_law_tree_text P_law_tree_text (defScope s_law_tree_text) := ⟨rfl, rfl, rfl, by decide +kernel, rfl, by decide +kernel, by decide +kernel⟩
theorem bi_law_tree_text : BindsF "_law_tree_text" s_law_tree_text P_law_tree_text := fun _ _ _ _ _ _ us hl => match us, hl with | [_], _ => rfl
theorem ok_law_tree_text (T : Txt K mg) {fA : Addr} {fd : FuncData} (Dn : DefIn K mg "_law_tree_text" s_law_tree_text fA fd) (C_law_line_text : DFn P w K mg base "_law_line_text" 2 [false] .f Mi.law_line_text) : ∀ n, DFn P w K mg base "_law_tree_text" (2 + n) [false] .f (Mi.law_tree_text n)
  | 0 => dfn_stuck Dn bi_law_tree_text
  | n + 1 => by
    have C_law_tree_text := ok_law_tree_text T Dn C_law_line_text n
    exact dfn_ok (k := 2 + n) Dn sc_law_tree_text rfl bi_law_tree_text fun cdv A outer s H E H0 pr pf hr tk => by
      have sc := sc_law_tree_text; have hu := hr.units; have hv := room_hv hr
      exact (dss_cons (ds_if (dt_cmp (op_eqD hu) opd_eq (de_callB (callR_or call_len call_lenF) (cd_len.or cd_lenK) rfl T.n_len (by decide +kernel) (da_cons (de_var 0 rfl (.inl rfl)) da_nil)) de_int (nomark _)) (dss_one (ds_ret (de_ix (ix_X hv) opd_ixX (de_fz (do_lst (da_cons de_str (da_cons de_str da_nil)))) (de_callTy call_int1 cd_int rfl T.n_int (by decide +kernel) (da_cons (de_cmp (op_eqD hu) opd_eq (de_ix (ix_X hv) opd_ixX (de_var 0 rfl (.inl rfl)) de_int) de_str (nomark _)) da_nil))))) dss_nil)
      (dss_cons (ds_if (dt_cmp (op_eqD hu) opd_eq (de_ix (ix_X hv) opd_ixX (de_var 0 rfl (.inl rfl)) de_int) de_str (nomark _)) (dss_one (ds_ret (de_op op_addU opd_add (de_op op_addU opd_add (de_op op_addU opd_add (de_op op_addU opd_add de_str (de_calls rfl rfl tk C_law_line_text hr (by omega) rfl (dg_d (de_fz (do_lst (da_cons (de_ix (ix_X hv) opd_ixX (de_var 0 rfl (.inl rfl)) de_int) da_nil))) dg_nil))) de_str) (de_calls rfl rfl tk C_law_tree_text hr (by omega) rfl (dg_d (de_ix (ix_X hv) opd_ixX (de_var 0 rfl (.inl rfl)) de_int) dg_nil))) de_str))) dss_nil)
      (dss_one (ds_ret (de_op op_addU opd_add (de_op op_addU opd_add de_str (de_bm rfl PySem.F.plainAttrs_str PySem.F.slot_str_join PySem.F.type_str_join mt_join mv_join de_str (da_cons (de_fz (do_lc rfl sc.nd (di_gen rfl (de_ix (ix_X hv) opd_ixX (de_var 0 rfl (.inl rfl)) de_int)) (blkOk_by (N := N_law_tree_text) (sc := defScope s_law_tree_text) (own := [("move", 1), ("other", 2)]) (by decide +kernel)) rfl rfl (fun _ _ _ _ _ _ => (dg_tup rfl rfl (dgs_cons (dg_name 1 (pf 1 rfl) sc.nd rfl (.inl rfl)) (dgs_cons (dg_name 2 (pf 2 rfl) sc.nd rfl (.inl rfl)) dgs_nil)))) (fun _ _ _ _ _ _ => dts_nil) (fun _ _ _ _ _ _ => (de_op op_addU opd_add (de_op op_addU opd_add (de_calls rfl rfl takes0 C_law_line_text hr (by omega) rfl (dg_d (de_fz (do_lst (da_cons (de_var 1 rfl (.inl rfl)) da_nil))) dg_nil)) de_str) (de_calls rfl rfl takes0 C_law_tree_text hr (by omega) rfl (dg_d (de_var 2 rfl (.inl rfl)) dg_nil)))))) da_nil))) de_str)))))
theorem sc_law_spoilt : FnScope N_law_spoilt P_law_spoilt (defScope s_law_spoilt) := ⟨rfl, rfl, rfl, by decide +kernel, rfl, by decide +kernel, by decide +kernel⟩
theorem bi_law_spoilt : BindsF "_law_spoilt" s_law_spoilt P_law_spoilt := fun _ _ _ _ _ _ us hl => match us, hl with | [_, _], _ => rfl
theorem ok_law_spoilt (T : Txt K mg) {fA : Addr} {fd : FuncData} (Dn : DefIn K mg "_law_spoilt" s_law_spoilt fA fd) : DFn P w K mg base "_law_spoilt" 1 [false, false] .f Mi.law_spoilt :=
  dfn_ok (k := 0) Dn sc_law_spoilt rfl bi_law_spoilt fun cdv A outer s H E H0 pr pf hr tk => by
    have sc := sc_law_spoilt; have hu := hr.units; have hv := room_hv hr
    exact (dss_cons (ds_set 2 (pf 2 rfl) sc.nd rfl (.inl rfl) (de_op op_mod opd_mod (de_var 1 rfl (.inl rfl)) de_int))
      (dss_cons (ds_set 3 (pf 3 rfl) sc.nd rfl (.inl rfl) (de_op op_mod opd_mod (de_op op_fdiv opd_div (de_var 1 rfl (.inl rfl)) de_int) (de_callB (callR_or call_len call_lenF) (cd_len.or cd_lenK) rfl T.n_len (by decide +kernel) (da_cons (de_var 0 rfl (.inl rfl)) da_nil))))
      (dss_cons (ds_if (dt_cmp (op_eqD hu) opd_eq (de_var 2 rfl (.inl rfl)) de_int (nomark _)) (dss_one (ds_ret (de_op op_addU opd_add (de_slice rfl (de_var 0 rfl (.inl rfl)) dp_none (dp_some (de_var 3 rfl (.inl rfl)))) (de_slice rfl (de_var 0 rfl (.inl rfl)) (dp_some (de_op op_addU opd_add (de_var 3 rfl (.inl rfl)) de_int)) dp_none)))) dss_nil)
      (dss_cons (ds_if (dt_cmp (op_eqD hu) opd_eq (de_var 2 rfl (.inl rfl)) de_int (nomark _)) (dss_one (ds_ret (de_op op_addU opd_add (de_var 0 rfl (.inl rfl)) (de_ix (ix_X hv) opd_ixX (de_fz (do_lst (da_cons de_str (da_cons de_str (da_cons de_str (da_cons de_str (da_cons de_str (da_cons de_str da_nil)))))))) (de_op op_mod opd_mod (de_op op_fdiv opd_div (de_var 1 rfl (.inl rfl)) de_int) de_int))))) dss_nil)
      (dss_cons (ds_if (dt_cmp (op_eqD hu) opd_eq (de_var 2 rfl (.inl rfl)) de_int (nomark _)) (dss_one (ds_ret de_str)) dss_nil)
      (dss_cons (ds_if (dt_cmp (op_eqD hu) opd_eq (de_var 2 rfl (.inl rfl)) de_int (nomark _)) (dss_one (ds_ret (de_ix (ix_X hv) opd_ixX (de_fz (do_lst (da_cons de_str (da_cons de_str (da_cons de_str (da_cons de_str (da_cons de_str (da_cons de_str (da_cons de_str (da_cons de_str da_nil)))))))))) (de_op op_mod opd_mod (de_op op_fdiv opd_div (de_var 1 rfl (.inl rfl)) de_int) de_int)))) dss_nil)
      (dss_cons (ds_if (dt_cmp (op_eqD hu) opd_eq (de_var 2 rfl (.inl rfl)) de_int (nomark _)) (dss_one (ds_ret (de_ix (ix_X hv) opd_ixX (de_fz (do_lst (da_cons de_str (da_cons (de_op op_addU opd_add de_str (de_var 0 rfl (.inl rfl))) (da_cons de_str (da_cons de_str da_nil)))))) (de_op op_mod opd_mod (de_op op_fdiv opd_div (de_var 1 rfl (.inl rfl)) de_int) de_int)))) dss_nil)
      (dss_cons (ds_if (dt_cmp (op_eqD hu) opd_eq (de_var 2 rfl (.inl rfl)) de_int (nomark _)) (dss_one (ds_ret (de_ix (ix_X hv) opd_ixX (de_fz (do_lst (da_cons de_str (da_cons de_str (da_cons de_str (da_cons de_str da_nil)))))) (de_op op_mod opd_mod (de_op op_fdiv opd_div (de_var 1 rfl (.inl rfl)) de_int) de_int)))) dss_nil)
      (dss_cons (ds_if (dt_cmp (op_eqD hu) opd_eq (de_var 2 rfl (.inl rfl)) de_int (nomark _)) (dss_one (ds_ret (de_ix (ix_X hv) opd_ixX (de_fz (do_lst (da_cons de_str (da_cons de_str (da_cons de_str (da_cons de_str da_nil)))))) (de_op op_mod opd_mod (de_op op_fdiv opd_div (de_var 1 rfl (.inl rfl)) de_int) de_int)))) dss_nil)
      (dss_one (ds_ret (de_op op_addU opd_add (de_op op_addU opd_add (de_op op_mulT opd_mulT de_str (de_op op_addU opd_add de_int (de_op op_mod opd_mod (de_op op_fdiv opd_div (de_var 1 rfl (.inl rfl)) de_int) de_int))) de_str) (de_op op_mulT opd_mulT de_str (de_op op_addU opd_add de_int (de_op op_mod opd_mod (de_op op_fdiv opd_div (de_var 1 rfl (.inl rfl)) de_int) de_int)))))))))))))))
theorem sc_law_refused : FnScope N_law_refused P_law_refused (defScope s_law_refused) := ⟨rfl, rfl, rfl, by decide +kernel, rfl, by decide +kernel, by decide +kernel⟩
theorem bi_law_refused : BindsF "_law_refused" s_law_refused P_law_refused := fun _ _ _ _ _ _ us hl => match us, hl with | [_], _ => rfl
theorem ok_law_refused (T : Txt K mg) {fA : Addr} {fd : FuncData} (Dn : DefIn K mg "_law_refused" s_law_refused fA fd) (C_read_tree : DFn P w K mg base "read_tree" 144 [false] .f Mi.read_tree) : DFn P w K mg base "_law_refused" 145 [false] .f Mi.law_refused :=
  dfn_ok (k := 144) Dn sc_law_refused rfl bi_law_refused fun cdv A outer s H E H0 pr pf hr tk => by
    have sc := sc_law_refused; have hu := hr.units; have hv := room_hv hr
    exact (dss_cons (ds_tryT 1 rfl rfl (pf 1 rfl) T.exs rfl rfl (by decide) rfl rfl sc.nd rfl rfl tk (fun W1 pn1 xe1 tk1 po1 => (dss_one (ds_expr (de_calls rfl rfl tk1 C_read_tree hr (by decide) rfl (dg_d (de_var 0 rfl (.inl rfl)) dg_nil)))))
      (fun a1 oe1 C1 c1 pn1 hx => (dss_one (ds_ret (de_and (de_isEc 1 hx T.exs rfl rfl rfl (by decide) rfl T.n_isinstance rfl (.inl rfl)) (de_one (de_isEv 1 hx T.exs rfl rfl T.n_ValueError rfl T.n_isinstance rfl (.inl rfl))))))))
      (dss_one (ds_ret de_bl)))
theorem sc_law_none : FnScope N_law_none P_law_none (defScope s_law_none) := ⟨rfl, rfl, rfl, by decide +kernel, rfl, by decide +kernel, by decide +kernel⟩
theorem bi_law_none : BindsF "_law_none" s_law_none P_law_none := fun _ _ _ _ _ _ us hl => match us, hl with | [_], _ => rfl
theorem ok_law_none (T : Txt K mg) {fA : Addr} {fd : FuncData} (Dn : DefIn K mg "_law_none" s_law_none fA fd) (C_tree_text : DFn P w K mg base "tree_text" 43 [false] .f Mi.tree_text) : DFn P w K mg base "_law_none" 44 [false] .f Mi.law_none :=
  dfn_ok (k := 43) Dn sc_law_none rfl bi_law_none fun cdv A outer s H E H0 pr pf hr tk => by
    have sc := sc_law_none; have hu := hr.units; have hv := room_hv hr
    exact (dss_cons (ds_tryT 1 rfl rfl (pf 1 rfl) T.exs rfl rfl (by decide) rfl rfl sc.nd rfl rfl tk (fun W1 pn1 xe1 tk1 po1 => (dss_one (ds_expr (de_calls rfl rfl tk1 C_tree_text hr (by decide) rfl (dg_d (de_var 0 rfl (.inl rfl)) dg_nil)))))
      (fun a1 oe1 C1 c1 pn1 hx => (dss_one (ds_ret (de_and (de_isEc 1 hx T.exs rfl rfl rfl (by decide) rfl T.n_isinstance rfl (.inl rfl)) (de_one (de_isEv 1 hx T.exs rfl rfl T.n_ValueError rfl T.n_isinstance rfl (.inl rfl))))))))
      (dss_one (ds_ret de_bl)))
theorem sc_law : FnScope N_law P_law (defScope s_law) := ⟨rfl, rfl, rfl, by decide +kernel, rfl, by decide +kernel, by decide +kernel⟩
theorem bi_law : BindsF "law" s_law P_law := fun _ _ _ _ _ _ us hl => match us, hl with | [_], _ => rfl
theorem ok_law (T : Txt K mg) (hks : K.lookup sysModules = none) (hsy : ∃ o, base.get? sysModules = some o) {fA : Addr} {fd : FuncData} (Dn : DefIn K mg "law" s_law fA fd) (C_tree_text : DFn P w K mg base "tree_text" 43 [false] .f Mi.tree_text) (C_read_tree : DFn P w K mg base "read_tree" 144 [false] .f Mi.read_tree) (C_law_cell_at : DFn P w K mg base "_law_cell_at" 1 [false, false] .f Mi.law_cell_at) (C_law_tree_by : DFn P w K mg base "_law_tree_by" 18 [false, false, false] .f (Mi.law_tree_by 16)) (C_law_tree_text : DFn P w K mg base "_law_tree_text" 18 [false] .f (Mi.law_tree_text 16)) (C_law_spoilt : DFn P w K mg base "_law_spoilt" 1 [false, false] .f Mi.law_spoilt) (C_law_refused : DFn P w K mg base "_law_refused" 145 [false] .f Mi.law_refused) (C_law_none : DFn P w K mg base "_law_none" 44 [false] .f Mi.law_none) : FnG P w K mg base fA fd P_law (spD ⟨K, mg, w⟩ none [false] .f Mi.law) :=
  fn_okG (k := 145) Dn.2 sc_law rfl ⟨rfl, by decide, by decide⟩ fun cdv s H E H0 pr pf hr tk => by
    have sc := sc_law; have hu := hr.units; have hv := room_hv hr
    exact (dss_cons (ds_set 1 (pf 1 rfl) sc.nd rfl (.inl rfl) (de_calls rfl rfl tk C_law_cell_at hr (by decide) rfl (dg_d (de_var 0 rfl (.inl rfl)) (dg_d de_int dg_nil))))
      (dss_cons (ds_set 2 (pf 2 rfl) sc.nd rfl (.inl rfl) (de_calls rfl rfl tk C_law_tree_by hr (by decide) rfl (dg_d (de_calls rfl rfl tk C_law_cell_at hr (by decide) rfl (dg_d (de_var 0 rfl (.inl rfl)) (dg_d de_int dg_nil))) (dg_d (de_ix (ix_X hv) opd_ixX (de_fz (do_lst (da_cons de_str (da_cons de_str da_nil)))) (de_op op_mod opd_mod (de_var 1 rfl (.inl rfl)) de_int)) (dg_d de_int dg_nil)))))
      (dss_cons (ds_set 3 (pf 3 rfl) sc.nd rfl (.inl rfl) (de_calls rfl rfl tk C_law_tree_text hr (by decide) rfl (dg_d (de_var 2 rfl (.inl rfl)) dg_nil)))
      (dss_cons (ds_set 4 (pf 4 rfl) sc.nd rfl (.inl rfl) (de_repr rfl hsy hks rfl (by omega) rfl T.n_repr (de_var 2 rfl (.inl rfl))))
      (dss_cons (ds_set 5 (pf 5 rfl) sc.nd rfl (.inl rfl) (de_calls rfl rfl tk C_tree_text hr (by decide) rfl (dg_d (de_var 2 rfl (.inl rfl)) dg_nil)))
      (dss_cons (ds_if (dt_w (dw_or (dt_not (dt_val (de_isi (Ts := "str") rfl rfl rfl T.n_isinstance rfl T.n_str (by decide +kernel) (de_var 5 rfl (.inl rfl))))) (dw_or (dt_cmp (op_neD hu) opd_ne (de_var 5 rfl (.inl rfl)) (de_var 3 rfl (.inl rfl)) (nomark _)) (dw_or1 (dt_cmp op_ne opd_neS (de_repr rfl hsy hks rfl (by omega) rfl T.n_repr (de_var 2 rfl (.inl rfl))) (de_var 4 rfl (.inl rfl)) (nomark _)))))) (dss_one (ds_ret de_bl)) dss_nil)
      (dss_cons (ds_if (dt_cmp (op_gtA hv) opd_gtA (de_op op_mod opd_mod (de_op op_fdiv opd_div (de_var 1 rfl (.inl rfl)) de_int) de_int) de_int (nomark _)) (dss_one (ds_ret (de_calls rfl rfl tk C_law_refused hr (by decide) rfl (dg_d (de_calls rfl rfl tk C_law_spoilt hr (by decide) rfl (dg_d (de_var 3 rfl (.inl rfl)) (dg_d (de_op op_fdiv opd_div (de_var 1 rfl (.inl rfl)) de_int) dg_nil))) dg_nil)))) dss_nil)
      (dss_cons (ds_set 6 (pf 6 rfl) sc.nd rfl (.inl rfl) (de_tup (da_cons (de_tup (da_cons de_int (da_cons de_int da_nil))) (da_cons (de_tup (da_cons de_int (da_cons de_int da_nil))) da_nil))))
      (dss_cons (ds_set 7 (pf 7 rfl) sc.nd rfl (.inl rfl) (de_tup (da_cons de_str (da_cons (de_fz (do_lst (da_cons (de_tup (da_cons (de_var 6 rfl (.inl rfl)) (da_cons (de_tup (da_cons de_str da_nil)) da_nil))) (da_cons (de_tup (da_cons (de_tup (da_cons (de_tup (da_cons de_int (da_cons de_int da_nil))) (da_cons (de_tup (da_cons de_int (da_cons de_int da_nil))) da_nil))) (da_cons (de_tup (da_cons de_str da_nil)) da_nil))) da_nil)))) da_nil))))
      (dss_cons (ds_for (passes_of rfl) rfl (di_gen rfl (de_fz (do_lst (da_cons (de_var 7 rfl (.inl rfl)) (da_cons (de_tup (da_cons de_str (da_cons (de_fz (do_lst da_nil)) da_nil))) (da_cons (de_tup (da_cons de_str (da_cons (de_var 6 rfl (.inl rfl)) (da_cons (de_var 7 rfl (.inl rfl)) da_nil)))) (da_cons (de_tup (da_cons de_str da_nil)) da_nil))))))) (dg_name 8 (pf 8 rfl) sc.nd rfl (.inl rfl)) (dss_one (ds_if (dt_not (dt_val (de_calls rfl rfl tk C_law_none hr (by decide) rfl (dg_d (de_var 8 rfl (.inl rfl)) dg_nil)))) (dss_one (ds_ret de_bl)) dss_nil)))
      (dss_cons (ds_set 9 (pf 9 rfl) sc.nd rfl (.inl rfl) (de_calls rfl rfl tk C_read_tree hr (by decide) rfl (dg_d (de_var 3 rfl (.inl rfl)) dg_nil)))
      (dss_one (ds_ret (de_and (de_isi (Ts := "tuple") rfl rfl rfl T.n_isinstance rfl T.n_tuple (by decide +kernel) (de_var 9 rfl (.inl rfl))) (de_one (de_cmp op_eq opd_eqS (de_repr rfl hsy hks rfl (by omega) rfl T.n_repr (de_var 9 rfl (.inl rfl))) (de_var 4 rfl (.inl rfl)) (nomark _)))))))))))))))))
theorem law_ok {h : Heap} (X : K.In h) (G : h.Ns mainGlobals mg) (c : He.SaysD fa fn K) (xt : (exsB K tab && (slotsB K && sysB K)) = true) : ∃ fd, DefIn K mg "law" s_law (He.ga K "law") fd ∧ slotsB K = true ∧ ∀ base : Heap, (∃ o, base.get? sysModules = some o) → FnG P w K mg base (He.ga K "law") fd P_law (spD ⟨K, mg, w⟩ none [false] .f Mi.law) := by
  rw [Bool.and_eq_true] at xt
  have xl := xt.2
  rw [Bool.and_eq_true] at xl
  have T : Txt K mg := ⟨exsB_ok X G xt.1, He.free_ok X G (c.fact 27 (f := .free "ValueError") rfl), He.free_ok X G (c.fact 28 (f := .free "all") rfl), He.free_ok X G (c.fact 29 (f := .free "bool") rfl), He.free_ok X G (c.fact 30 (f := .free "int") rfl), He.free_ok X G (c.fact 31 (f := .free "isinstance") rfl), He.free_ok X G (c.fact 32 (f := .free "len") rfl), He.free_ok X G (c.fact 33 (f := .free "max") rfl), He.free_ok X G (c.fact 34 (f := .free "range") rfl), He.free_ok X G (c.fact 35 (f := .free "repr") rfl), He.free_ok X G (c.fact 36 (f := .free "str") rfl), He.free_ok X G (c.fact 37 (f := .free "tuple") rfl), He.str_ok X G (c.fact 38 (f := .str "FIGURES" "0123456789") rfl), He.int_ok X G (c.fact 39 (f := .int "MOST_DEPTH" 12) rfl), He.str_ok X G (c.fact 40 (f := .str "NOT" "not") rfl), He.str_ok X G (c.fact 41 (f := .str "WON" "won") rfl)⟩
  obtain ⟨fd_cell_text, D_cell_text⟩ := def_in (x := "cell_text") (st := s_cell_text) X G c 0 0 rfl rfl
  obtain ⟨fd_move_text, D_move_text⟩ := def_in (x := "move_text") (st := s_move_text) X G c 1 1 rfl rfl
  obtain ⟨fd_number_in, D_number_in⟩ := def_in (x := "number_in") (st := s_number_in) X G c 2 2 rfl rfl
  obtain ⟨fd_cell_in, D_cell_in⟩ := def_in (x := "cell_in") (st := s_cell_in) X G c 3 3 rfl rfl
  obtain ⟨fd_move_in, D_move_in⟩ := def_in (x := "move_in") (st := s_move_in) X G c 4 4 rfl rfl
  obtain ⟨fd_is_tree, D_is_tree⟩ := def_in (x := "is_tree") (st := s_is_tree) X G c 5 5 rfl rfl
  obtain ⟨fd_depth_of, D_depth_of⟩ := def_in (x := "depth_of") (st := s_depth_of) X G c 6 6 rfl rfl
  obtain ⟨fd_check_either, D_check_either⟩ := def_in (x := "check_either") (st := s_check_either) X G c 7 7 rfl rfl
  obtain ⟨fd_depth, D_depth⟩ := def_in (x := "depth") (st := s_depth) X G c 8 8 rfl rfl
  obtain ⟨fd_text_of, D_text_of⟩ := def_in (x := "text_of") (st := s_text_of) X G c 9 9 rfl rfl
  obtain ⟨fd_tree_text, D_tree_text⟩ := def_in (x := "tree_text") (st := s_tree_text) X G c 10 10 rfl rfl
  obtain ⟨fd_row_from, D_row_from⟩ := def_in (x := "row_from") (st := s_row_from) X G c 11 11 rfl rfl
  obtain ⟨fd_rows_from, D_rows_from⟩ := def_in (x := "rows_from") (st := s_rows_from) X G c 12 12 rfl rfl
  obtain ⟨fd_tree_from, D_tree_from⟩ := def_in (x := "tree_from") (st := s_tree_from) X G c 13 13 rfl rfl
  obtain ⟨fd_read_tree, D_read_tree⟩ := def_in (x := "read_tree") (st := s_read_tree) X G c 14 14 rfl rfl
  obtain ⟨fd_law_cell_at, D_law_cell_at⟩ := def_in (x := "_law_cell_at") (st := s_law_cell_at) X G c 15 15 rfl rfl
  obtain ⟨fd_law_mix, D_law_mix⟩ := def_in (x := "_law_mix") (st := s_law_mix) X G c 16 16 rfl rfl
  obtain ⟨fd_law_whole, D_law_whole⟩ := def_in (x := "_law_whole") (st := s_law_whole) X G c 17 17 rfl rfl
  obtain ⟨fd_law_list, D_law_list⟩ := def_in (x := "_law_list") (st := s_law_list) X G c 18 18 rfl rfl
  obtain ⟨fd_law_cell_text, D_law_cell_text⟩ := def_in (x := "_law_cell_text") (st := s_law_cell_text) X G c 19 19 rfl rfl
  obtain ⟨fd_law_line_text, D_law_line_text⟩ := def_in (x := "_law_line_text") (st := s_law_line_text) X G c 20 20 rfl rfl
  obtain ⟨fd_law_tree_by, D_law_tree_by⟩ := def_in (x := "_law_tree_by") (st := s_law_tree_by) X G c 21 21 rfl rfl
  obtain ⟨fd_law_tree_text, D_law_tree_text⟩ := def_in (x := "_law_tree_text") (st := s_law_tree_text) X G c 22 22 rfl rfl
  obtain ⟨fd_law_spoilt, D_law_spoilt⟩ := def_in (x := "_law_spoilt") (st := s_law_spoilt) X G c 23 23 rfl rfl
  obtain ⟨fd_law_refused, D_law_refused⟩ := def_in (x := "_law_refused") (st := s_law_refused) X G c 24 24 rfl rfl
  obtain ⟨fd_law_none, D_law_none⟩ := def_in (x := "_law_none") (st := s_law_none) X G c 25 25 rfl rfl
  obtain ⟨fd_law, D_law⟩ := def_in (x := "law") (st := s_law) X G c 26 26 rfl rfl
  refine ⟨fd_law, D_law, xl.1, fun base hsy => ?_⟩
  have C_law_cell_at := ok_law_cell_at (P := P) (w := w) (base := base) T D_law_cell_at
  have C_law_mix := ok_law_mix (P := P) (w := w) (base := base) T D_law_mix
  have C_law_list := ok_law_list (P := P) (w := w) (base := base) T D_law_list C_law_mix
  have C_law_tree_by := ok_law_tree_by (P := P) (w := w) (base := base) T D_law_tree_by C_law_mix C_law_list 16
  have C_law_cell_text := ok_law_cell_text (P := P) (w := w) (base := base) T D_law_cell_text
  have C_law_line_text := ok_law_line_text (P := P) (w := w) (base := base) T D_law_line_text C_law_cell_text
  have C_law_tree_text := ok_law_tree_text (P := P) (w := w) (base := base) T D_law_tree_text C_law_line_text 16
  have C_is_tree := ok_is_tree (P := P) (w := w) (base := base) T D_is_tree 40
  have C_check_either := ok_check_either (P := P) (w := w) (base := base) T D_check_either C_is_tree
  have C_depth_of := ok_depth_of (P := P) (w := w) (base := base) T D_depth_of 40
  have C_depth := ok_depth (P := P) (w := w) (base := base) T D_depth C_depth_of C_check_either
  have C_cell_text := ok_cell_text (P := P) (w := w) (base := base) T D_cell_text
  have C_move_text := ok_move_text (P := P) (w := w) (base := base) T D_move_text C_cell_text
  have C_text_of := ok_text_of (P := P) (w := w) (base := base) T D_text_of C_move_text 16
  have C_tree_text := ok_tree_text (P := P) (w := w) (base := base) T D_tree_text C_depth C_text_of
  have C_number_in := ok_number_in (P := P) (w := w) (base := base) T D_number_in
  have C_cell_in := ok_cell_in (P := P) (w := w) (base := base) T D_cell_in C_number_in
  have C_move_in := ok_move_in (P := P) (w := w) (base := base) T D_move_in C_cell_in
  obtain ⟨C_row_from, C_rows_from, C_tree_from⟩ := okc_row_from (P := P) (w := w) (base := base) T D_row_from D_rows_from D_tree_from C_move_in 140
  obtain ⟨C_row_from, C_rows_from, C_tree_from⟩ := okc_row_from (P := P) (w := w) (base := base) T D_row_from D_rows_from D_tree_from C_move_in 140
  have CN_is_tree := okN_is_tree (P := P) (w := w) (base := base) T D_is_tree 40
  have CN_check_either := okN_check_either (P := P) (w := w) (base := base) T D_check_either CN_is_tree
  have CN_depth_of := okN_depth_of (P := P) (w := w) (base := base) T D_depth_of 40
  have CN_depth := okN_depth (P := P) (w := w) (base := base) T D_depth CN_depth_of CN_check_either
  have C_read_tree := ok_read_tree (P := P) (w := w) (base := base) T D_read_tree C_depth C_tree_from CN_depth
  have C_law_refused := ok_law_refused (P := P) (w := w) (base := base) T D_law_refused C_read_tree
  have C_law_spoilt := ok_law_spoilt (P := P) (w := w) (base := base) T D_law_spoilt
  have C_law_none := ok_law_none (P := P) (w := w) (base := base) T D_law_none C_tree_text
  exact ok_law T (Option.isNone_iff_eq_none.mp xl.2) hsy D_law C_tree_text C_read_tree C_law_cell_at C_law_tree_by C_law_tree_text C_law_spoilt C_law_refused C_law_none
end
end DL
section
/-! texts as lists of codes: split, join, replace by one sign -/
namespace DL
open PySem PySem.Spec L2 PySem.StrLaws PySem.Builtin.Str
open PyProof.Rows hiding St
def tx (l : List Nat) : Str := ⟨l.toArray⟩
theorem tx_len (l : List Nat) : (tx l).length = l.length := by simp [tx, Str.length]
theorem tx_cps (l : List Nat) : (tx l).cps.toList = l := rfl
theorem tx_app (a b : List Nat) : tx a ++ tx b = tx (a ++ b) := by
  show (⟨(tx a).cps ++ (tx b).cps⟩ : Str) = _
  simp [tx]
theorem tx_inj {a b : List Nat} (h : tx a = tx b) : a = b := by
  have := congrArg (fun s : Str => s.cps.toList) h
  simpa [tx] using this
theorem tx_of (s : Str) : tx s.cps.toList = s := rfl
theorem sub_tx (l : List Nat) (i j : Nat) : strSub (tx l) i j = tx ((l.drop i).take (j - i)) := by
  have h := strSub_toList (tx l) i j
  rw [← tx_of (strSub (tx l) i j), h]; rfl
/-! ### places of a sign -/
def posF (c : Nat) : Nat → List Nat → List Nat
  | _, [] => []
  | a, h :: t => if h = c then a :: posF c (a + 1) t else posF c (a + 1) t
theorem posF_cons (c a h : Nat) (t : List Nat) : posF c a (h :: t) = if h = c then a :: posF c (a + 1) t else posF c (a + 1) t := rfl
theorem occ_one (l : List Nat) (c limit : Nat) : ∀ (n a : Nat) (st : Array Nat × Nat), st.2 ≤ a →
    (forIn (List.range' a n) st (occBody (tx l) (tx [c]) (tx l).length limit)).run.fst.toList = st.1.toList ++ ((List.range' a n).filter fun i => l[i]? == some c).take (limit - st.1.size)
  | 0, a, st, h => by simp
  | n + 1, a, st, h => by
    have key := subAt_one (tx l) c a
    rw [tx_cps] at key
    have key : (a + (tx [c]).length ≤ (tx l).length ∧ subAt (tx l) (tx [c]) a = true) ↔ l[a]? = some c := key
    rw [List.range'_succ, List.forIn_cons]
    by_cases hc : ((st.fst.size < limit ∧ st.snd ≤ a) ∧ a + (tx [c]).length ≤ (tx l).length) ∧ subAt (tx l) (tx [c]) a = true
    · have e : occBody (tx l) (tx [c]) (tx l).length limit a st = pure (ForInStep.yield (st.fst.push a, a + (tx [c]).length)) := by unfold occBody; rw [if_pos hc]
      rw [e, pure_bind]
      have ih := occ_one l c limit n (a + 1) (st.fst.push a, a + (tx [c]).length) (by rw [tx_len]; simp)
      dsimp only at ih ⊢
      rw [ih]
      have m : l[a]? = some c := key.mp ⟨hc.1.2, hc.2⟩
      have s := hc.1.1.1
      rw [List.filter_cons_of_pos (by simp [m])]
      obtain ⟨k, hk⟩ : ∃ k, limit - st.fst.size = k + 1 := ⟨limit - st.fst.size - 1, by omega⟩
      rw [hk, List.take_succ_cons]
      have e2 : limit - (st.fst.push a).size = k := by rw [Array.size_push]; omega
      rw [e2]; simp
    · have e : occBody (tx l) (tx [c]) (tx l).length limit a st = pure (ForInStep.yield (st.fst, st.snd)) := by unfold occBody; rw [if_neg hc]
      rw [e, pure_bind]
      have ih := occ_one l c limit n (a + 1) (st.fst, st.snd) (by show st.snd ≤ a + 1; omega)
      dsimp only at ih ⊢
      rw [ih]
      by_cases m : l[a]? = some c
      · have hs : ¬ st.fst.size < limit := fun z => hc ⟨⟨⟨z, h⟩, (key.mpr m).1⟩, (key.mpr m).2⟩
        have z : limit - st.fst.size = 0 := by omega
        rw [z]; simp
      · rw [List.filter_cons_of_neg (by simp [m])]
theorem filter_pos (l : List Nat) (c : Nat) : ∀ (t : List Nat) (a : Nat), l.drop a = t → ((List.range' a (t.length + 1)).filter fun i => l[i]? == some c) = posF c a t
  | [], a, h => by
    have : l[a]? = none := by
      have e : l[a]? = (l.drop a)[0]? := by rw [List.getElem?_drop]; rfl
      rw [e, h]; rfl
    simp [posF, List.range'_succ, this]
  | x :: t, a, h => by
    have e : l[a]? = (l.drop a)[0]? := by rw [List.getElem?_drop]; rfl
    rw [h] at e
    have e : l[a]? = some x := e
    have ht : l.drop (a + 1) = t := by rw [← List.drop_drop, h]; rfl
    rw [List.length_cons, List.range'_succ]
    have ih := filter_pos l c t (a + 1) ht
    unfold posF
    by_cases z : x = c
    · rw [if_pos z, List.filter_cons_of_pos (by simp [e, z]), ih]
    · rw [if_neg z, List.filter_cons_of_neg (by simp [e, z]), ih]
theorem posF_len (c : Nat) : ∀ (t : List Nat) (a : Nat), (posF c a t).length ≤ t.length
  | [], _ => Nat.le_refl _
  | x :: t, a => by
    have := posF_len c t (a + 1)
    unfold posF
    split <;> simp <;> omega
theorem occ_tx (l : List Nat) (c limit : Nat) : occurrences (tx l) (tx [c]) 0 (tx l).length limit = (posF c 0 l).take limit := by
  rw [occ_eq, tx_len]
  have := occ_one l c limit (l.length + 1) 0 (#[], 0) (Nat.le_refl _)
  rw [tx_len] at this
  rw [show l.length + 1 - 0 = l.length + 1 from rfl, this, filter_pos l c l 0 rfl]
  simp
/-! ### split -/
def consH (s : List Nat) : List (List Nat) → List (List Nat)
  | [] => [s]
  | p :: r => (s ++ p) :: r
def splitL (c : Nat) : List Nat → List (List Nat)
  | [] => [[]]
  | h :: t => if h = c then [] :: splitL c t else consH [h] (splitL c t)
theorem splitL_cons (c h : Nat) (t : List Nat) : splitL c (h :: t) = if h = c then [] :: splitL c t else consH [h] (splitL c t) := rfl
theorem consH_consH (s t : List Nat) (r : List (List Nat)) : consH s (consH t r) = consH (s ++ t) r := by
  cases r <;> simp [consH]
theorem consH_nil {r : List (List Nat)} (h : r ≠ []) : consH [] r = r := by
  cases r with
  | nil => exact absurd rfl h
  | cons p r => rfl
theorem splitL_ne (c : Nat) : ∀ l, splitL c l ≠ []
  | [] => by simp [splitL]
  | h :: t => by
    unfold splitL
    split
    · simp
    · cases splitL c t <;> simp [consH]
theorem parts_pos (l : List Nat) (c : Nat) : ∀ (t : List Nat) (a b : Nat), l.drop b = t → a ≤ b → partsFrom (tx l) 1 a (posF c b t) = (consH ((l.drop a).take (b - a)) (splitL c t)).map tx
  | [], a, b, h, hab => by
    have hb : l.length ≤ b := by simpa using h
    show [strSub (tx l) a (tx l).length] = _
    rw [sub_tx, tx_len]
    simp only [splitL, consH, List.map_cons, List.map_nil, List.append_nil]
    rw [List.take_of_length_le (by simp), List.take_of_length_le (by simp; omega)]
  | x :: t, a, b, h, hab => by
    have ht : l.drop (b + 1) = t := by rw [← List.drop_drop, h]; rfl
    rw [posF_cons, splitL_cons]
    by_cases z : x = c
    · rw [if_pos z, if_pos z]
      show strSub (tx l) a b :: partsFrom (tx l) 1 (b + 1) _ = _
      rw [parts_pos l c t (b + 1) (b + 1) ht (Nat.le_refl _), sub_tx]
      rw [show List.take (b + 1 - (b + 1)) (List.drop (b + 1) l) = [] by simp, consH_nil (splitL_ne c t)]
      simp [consH]
    · rw [if_neg z, if_neg z, parts_pos l c t a (b + 1) ht (by omega), consH_consH]
      congr 2
      have e : b + 1 - a = (b - a) + 1 := by omega
      have g : (l.drop a)[b - a]? = some x := by
        rw [List.getElem?_drop, show a + (b - a) = b by omega]
        have e : l[b]? = (l.drop b)[0]? := by rw [List.getElem?_drop]; rfl
        rw [e, h]; rfl
      rw [e, List.take_succ, g]; rfl
theorem kind_one {c : Nat} (hc : c < 256) : Builtin.Str.strKind (tx [c]) = 1 := by
  unfold Builtin.Str.strKind
  rw [if_pos (by simp [tx, hc])]
theorem kind_pos (x : Str) : 1 ≤ Builtin.Str.strKind x := by
  unfold Builtin.Str.strKind
  split
  · omega
  · split <;> omega
theorem split_tx (l : List Nat) {c : Nat} (hc : c < 256) : Txt.split (tx l) (tx [c]) = (splitL c l).map tx := by
  have main := parts_pos l c l 0 0 rfl (Nat.le_refl _)
  rw [show (l.drop 0).take (0 - 0) = [] by simp, consH_nil (splitL_ne c l)] at main
  unfold Txt.split
  have hk : decide (Builtin.Str.strKind (tx l) < Builtin.Str.strKind (tx [c])) = false := by
    rw [kind_one hc]
    have := kind_pos (tx l)
    exact decide_eq_false (by omega)
  rw [hk, occ_tx]
  have ht : (posF c 0 l).take ((tx l).length + 1) = posF c 0 l := List.take_of_length_le (by have := posF_len c l 0; rw [tx_len]; omega)
  rw [ht, partsBetween_eq]
  show (if (decide ((tx l).length < (tx [c]).length) || false) = true then [tx l] else _) = _
  by_cases h0 : (tx l).length < (tx [c]).length
  · rw [if_pos (by simp [h0])]
    rw [tx_len, tx_len] at h0
    have : l = [] := List.eq_nil_of_length_eq_zero (by simpa using h0)
    subst this; rfl
  · rw [if_neg (by simp [h0])]
    by_cases he : (posF c 0 l).isEmpty = true
    · rw [if_pos he]
      have e : posF c 0 l = [] := List.isEmpty_iff.mp he
      rw [e] at main
      rw [← main]
      show [tx l] = [strSub (tx l) 0 (tx l).length]
      rw [sub_tx, tx_len]; simp
    · rw [if_neg he]
      exact main
/-! ### words -/
def tailP (c : Nat) : List (List Nat) → List Nat
  | [] => []
  | y :: ys => c :: (y ++ tailP c ys)
def joinL (c : Nat) : List (List Nat) → List Nat
  | [] => []
  | y :: ys => y ++ tailP c ys
theorem splitL_app {c : Nat} (t : List Nat) : ∀ {w : List Nat}, c ∉ w → splitL c (w ++ t) = consH w (splitL c t)
  | [], _ => (consH_nil (splitL_ne c t)).symm
  | h :: w, hw => by
    have h1 : h ≠ c := fun e => hw (by simp [e])
    have h2 : c ∉ w := fun e => hw (by simp [e])
    show splitL c (h :: (w ++ t)) = _
    rw [splitL_cons, if_neg h1, splitL_app t h2, consH_consH]; rfl
theorem splitL_tail {c : Nat} : ∀ {ws : List (List Nat)}, (∀ w ∈ ws, c ∉ w) → splitL c (tailP c ws) = [] :: ws
  | [], _ => rfl
  | y :: ys, h => by
    show splitL c (c :: (y ++ tailP c ys)) = _
    rw [splitL_cons, if_pos rfl, splitL_app _ (h y (by simp)), splitL_tail fun w hw => h w (by simp [hw])]
    simp [consH]
theorem splitL_join {c : Nat} {ws : List (List Nat)} (hn : ws ≠ []) (h : ∀ w ∈ ws, c ∉ w) : splitL c (joinL c ws) = ws := by
  cases ws with
  | nil => exact absurd rfl hn
  | cons y ys =>
    show splitL c (y ++ tailP c ys) = _
    rw [splitL_app _ (h y (by simp)), splitL_tail fun w hw => h w (by simp [hw])]
    simp [consH]
theorem tailP_len (c n : Nat) : ∀ ws : List (List Nat), (∀ w ∈ ws, w.length = n) → (tailP c ws).length = (n + 1) * ws.length
  | [], _ => rfl
  | y :: ys, h => by
    have ih := tailP_len c n ys fun w hw => h w (by simp [hw])
    have e := h y (by simp)
    simp only [tailP, List.length_append, List.length_cons, ih, e, Nat.mul_add, Nat.mul_one]; omega
/-! ### join -/
theorem fold_tx (c : Nat) : ∀ (ys : List (List Nat)) (a : List Nat), (List.foldl (fun (acc : Array Nat) (p : Str) => acc ++ (tx [c]).cps ++ p.cps) a.toArray (ys.map tx)) = (a ++ tailP c ys).toArray
  | [], a => by simp [tailP]
  | y :: ys, a => by
    rw [List.map_cons, List.foldl_cons]
    have e : a.toArray ++ (tx [c]).cps ++ (tx y).cps = (a ++ c :: y).toArray := by simp [tx]
    rw [e, fold_tx c ys]
    simp [tailP]
theorem join_tx (c : Nat) (ys : List (List Nat)) : Txt.join (tx [c]) (ys.map tx) = tx (joinL c ys) := by
  cases ys with
  | nil => rfl
  | cons y ys =>
    show (⟨List.foldl _ (tx y).cps (ys.map tx)⟩ : Str) = _
    exact congrArg Str.mk (fold_tx c ys y)
/-! ### replace once -/
end DL
end
section
namespace DL
open PySem PySem.Spec L2
open PyProof.Rows hiding St

/-! ### the monad run at a state -/
section
variable {α β : Type} {ρ : DL.Env}
@[simp] theorem pureM_ap (x : α) : pureM x ρ = .ok x ρ := rfl
@[simp] theorem bindM_ap (a : M α) (k : α → M β) : bindM a k ρ = (match a ρ with | .ok x ρ' => k x ρ' | .exc c ρ' => .exc c ρ' | .stuck => .stuck) := rfl
@[simp] theorem stuckM_ap : (stuckM : M α) ρ = .stuck := rfl
@[simp] theorem liftM_some (x : α) : liftM (some x) ρ = .ok x ρ := rfl
@[simp] theorem liftM_none : liftM (none : Option α) ρ = .stuck := rfl
@[simp] theorem getM_ap (i : Nat) : getM i ρ = (match ρ[i]? with | some (.d x) => .ok x ρ | _ => .stuck) := rfl
@[simp] theorem rdM_ap (i : Nat) : rdM i ρ = (match ρ[i]? with | some (.d x) => .ok x ρ | some (.cell c) => .ok (ocD c) (ρ.set i (.d (ocD c))) | _ => .stuck) := rfl
@[simp] theorem ocD_l (xs : List D) : ocD (.l xs) = .lst xs := rfl
@[simp] theorem ocD_k (ks vs : List D) : ocD (.k ks vs) = .dic ks vs := rfl
@[simp] theorem getO_ap (i : Nat) : getO i ρ = (match ρ[i]? with | some (.cell (.l xs)) => .ok xs ρ | _ => .stuck) := rfl
@[simp] theorem putO_ap (i : Nat) (xs : List D) : putO i xs ρ = .ok () (ρ.set i (.own xs)) := rfl
@[simp] theorem haveS_ap (i : Nat) : haveS i ρ = (match ρ[i]? with | some (.cell _) => .ok () ρ | some (.exn _) => .ok () ρ | _ => .stuck) := rfl
@[simp] theorem op2_ap (g : D → D → Option D) (fa fb : M D) : op2 g fa fb ρ = (match fa ρ with | .ok x ρ1 => (match fb ρ1 with | .ok y ρ2 => liftM (g x y) ρ2 | .exc c ρ' => .exc c ρ' | .stuck => .stuck) | .exc c ρ' => .exc c ρ' | .stuck => .stuck) := by
  unfold op2 bindM
  cases fa ρ with
  | ok x r1 =>
    dsimp only
    cases fb r1 <;> rfl
  | _ => rfl
@[simp] theorem opO_ap (i : Nat) (g : List D → D → Option D) (fb : M D) : opO i g fb ρ = (match fb ρ with | .ok y ρ1 => (match getO i ρ1 with | .ok xs ρ2 => liftM (g xs y) ρ2 | .exc c ρ' => .exc c ρ' | .stuck => .stuck) | .exc c ρ' => .exc c ρ' | .stuck => .stuck) := by
  unfold opO bindM
  cases fb ρ with
  | ok x r1 =>
    dsimp only
    cases getO i r1 <;> rfl
  | _ => rfl
@[simp] theorem boolM_ap (f : M D) : boolM f ρ = (match f ρ with | .ok (.bl b) ρ' => .ok b ρ' | .ok _ _ => .stuck | .exc c ρ' => .exc c ρ' | .stuck => .stuck) := by
  unfold boolM bindM
  cases e : f ρ with
  | ok d ρ' => cases d <;> rfl
  | _ => rfl
@[simp] theorem andM_ap (f g : M Bool) : andM f g ρ = (match f ρ with | .ok true ρ' => g ρ' | .ok false ρ' => .ok false ρ' | .exc c ρ' => .exc c ρ' | .stuck => .stuck) := by
  unfold andM bindM
  cases e : f ρ with
  | ok d ρ' => cases d <;> rfl
  | _ => rfl
@[simp] theorem orM_ap (f g : M Bool) : orM f g ρ = (match f ρ with | .ok true ρ' => .ok true ρ' | .ok false ρ' => g ρ' | .exc c ρ' => .exc c ρ' | .stuck => .stuck) := by
  unfold orM bindM
  cases e : f ρ with
  | ok d ρ' => cases d <;> rfl
  | _ => rfl
@[simp] theorem notM_ap (f : M Bool) : notM f ρ = (match f ρ with | .ok b ρ' => .ok (!b) ρ' | .exc c ρ' => .exc c ρ' | .stuck => .stuck) := by
  unfold notM bindM
  cases f ρ <;> rfl
@[simp] theorem andV_ap (f g : M D) : andV f g ρ = (match f ρ with | .ok (.bl true) ρ' => g ρ' | .ok (.bl false) ρ' => .ok (.bl false) ρ' | .ok _ _ => .stuck | .exc c ρ' => .exc c ρ' | .stuck => .stuck) := by
  unfold andV bindM
  cases e : f ρ with
  | ok d ρ' => cases d with
    | bl b => cases b <;> rfl
    | _ => rfl
  | _ => rfl
@[simp] theorem orV_ap (f g : M D) : orV f g ρ = (match f ρ with | .ok (.bl true) ρ' => .ok (.bl true) ρ' | .ok (.bl false) ρ' => g ρ' | .ok _ _ => .stuck | .exc c ρ' => .exc c ρ' | .stuck => .stuck) := by
  unfold orV bindM
  cases e : f ρ with
  | ok d ρ' => cases d with
    | bl b => cases b <;> rfl
    | _ => rfl
  | _ => rfl
@[simp] theorem notV_ap (f : M D) : notV f ρ = (match f ρ with | .ok (.bl b) ρ' => .ok (.bl (!b)) ρ' | .ok _ _ => .stuck | .exc c ρ' => .exc c ρ' | .stuck => .stuck) := by
  unfold notV bindM
  cases e : f ρ with
  | ok d ρ' => cases d <;> rfl
  | _ => rfl
@[simp] theorem isN_ap (f : M D) : isN f ρ = (match f ρ with | .ok d ρ' => .ok (.bl (isNb d)) ρ' | .exc c ρ' => .exc c ρ' | .stuck => .stuck) := by
  unfold isN bindM
  cases f ρ <;> rfl
@[simp] theorem notN_ap (f : M D) : notN f ρ = (match f ρ with | .ok d ρ' => .ok (.bl (!isNb d)) ρ' | .exc c ρ' => .exc c ρ' | .stuck => .stuck) := by
  unfold notN bindM
  cases f ρ <;> rfl
@[simp] theorem negM_ap (f : M D) : negM f ρ = (match f ρ with | .ok (.int i) ρ' => .ok (.int (-i)) ρ' | .ok _ _ => .stuck | .exc c ρ' => .exc c ρ' | .stuck => .stuck) := by
  unfold negM bindM
  cases e : f ρ with
  | ok d ρ' => cases d <;> rfl
  | _ => rfl
@[simp] theorem iteM_ap (c : M Bool) (f g : M α) : iteM c f g ρ = (match c ρ with | .ok true ρ' => f ρ' | .ok false ρ' => g ρ' | .exc c ρ' => .exc c ρ' | .stuck => .stuck) := by
  unfold iteM bindM
  cases e : c ρ with
  | ok d ρ' => cases d <;> rfl
  | _ => rfl
@[simp] theorem consM_ap (f : M D) (g : M (List D)) : consM f g ρ = (match f ρ with | .ok x ρ1 => (match g ρ1 with | .ok xs ρ2 => .ok (x :: xs) ρ2 | .exc c ρ' => .exc c ρ' | .stuck => .stuck) | .exc c ρ' => .exc c ρ' | .stuck => .stuck) := by
  unfold consM bindM
  cases f ρ with
  | ok x r1 =>
    dsimp only
    cases g r1 <;> rfl
  | _ => rfl
@[simp] theorem consA_ap (f : M D) (g : M (List Ag)) : consA f g ρ = (match f ρ with | .ok x ρ1 => (match g ρ1 with | .ok xs ρ2 => .ok (.d x :: xs) ρ2 | .exc c ρ' => .exc c ρ' | .stuck => .stuck) | .exc c ρ' => .exc c ρ' | .stuck => .stuck) := by
  unfold consA bindM
  cases f ρ with
  | ok x r1 =>
    dsimp only
    cases g r1 <;> rfl
  | _ => rfl
@[simp] theorem consS_ap (i : Nat) (g : M (List Ag)) : consS i g ρ = (match g ρ with | .ok xs ρ2 => .ok (.sl i :: xs) ρ2 | .exc c ρ' => .exc c ρ' | .stuck => .stuck) := by
  unfold consS bindM
  cases g ρ <;> rfl
@[simp] theorem lstM_ap (f : M (List D)) : lstM f ρ = (match f ρ with | .ok xs ρ2 => .ok (.lst xs) ρ2 | .exc c ρ' => .exc c ρ' | .stuck => .stuck) := by
  unfold lstM bindM
  cases f ρ <;> rfl
@[simp] theorem sizeM_ap (f : M (List D)) : sizeM f ρ = (match f ρ with | .ok xs ρ2 => if xs.length ≤ sizeLine then .ok xs ρ2 else .stuck | .exc c ρ' => .exc c ρ' | .stuck => .stuck) := by
  unfold sizeM bindM
  cases e : f ρ with
  | ok d ρ' =>
    show (if d.length ≤ sizeLine then pureM d else stuckM) ρ' = if d.length ≤ sizeLine then .ok d ρ' else .stuck
    split <;> rfl
  | _ => rfl
@[simp] theorem tupM_ap (f : M (List D)) : tupM f ρ = (match f ρ with | .ok xs ρ2 => if xs.length ≤ sizeLine then .ok (.tup xs) ρ2 else .stuck | .exc c ρ' => .exc c ρ' | .stuck => .stuck) := by
  unfold tupM bindM
  rw [sizeM_ap]
  cases e : f ρ with
  | ok d ρ' =>
    dsimp only
    by_cases h : d.length ≤ sizeLine
    · simp only [h, if_true]; rfl
    · simp only [h, if_false]
  | _ => rfl
@[simp] theorem callD_ap (g : List D → Option D) (f : M (List D)) : callD g f ρ = (match f ρ with | .ok xs ρ2 => liftM (g xs) ρ2 | .exc c ρ' => .exc c ρ' | .stuck => .stuck) := by
  unfold callD bindM
  cases f ρ <;> rfl
@[simp] theorem callO_ap (g : List D → Option (List D)) (f : M (List D)) : callO g f ρ = (match f ρ with | .ok xs ρ2 => liftM (g xs) ρ2 | .exc c ρ' => .exc c ρ' | .stuck => .stuck) := by
  unfold callO bindM
  cases f ρ <;> rfl
@[simp] theorem itemsM_ap (f : M D) : itemsM f ρ = (match f ρ with | .ok d ρ2 => liftM (itemsOf d) ρ2 | .exc c ρ' => .exc c ρ' | .stuck => .stuck) := by
  unfold itemsM bindM
  cases f ρ <;> rfl
@[simp] theorem rg1M_ap (f : M (List D)) : rg1M f ρ = (match f ρ with | .ok d ρ2 => liftM (rg1 d) ρ2 | .exc c ρ' => .exc c ρ' | .stuck => .stuck) := by
  unfold rg1M bindM
  cases f ρ <;> rfl
@[simp] theorem rg2M_ap (f : M (List D)) : rg2M f ρ = (match f ρ with | .ok d ρ2 => liftM (rg2 d) ρ2 | .exc c ρ' => .exc c ρ' | .stuck => .stuck) := by
  unfold rg2M bindM
  cases f ρ <;> rfl
@[simp] theorem isiM_ap (T : String) (f : M D) : isiM T f ρ = (match f ρ with | .ok d ρ2 => liftM ((isTy T d).map D.bl) ρ2 | .exc c ρ' => .exc c ρ' | .stuck => .stuck) := by
  unfold isiM bindM
  cases f ρ <;> rfl
@[simp] theorem lenO_ap (i : Nat) : lenO i ρ = (match ρ[i]? with | some (.cell (.l xs)) => .ok (.int xs.length) ρ | _ => .stuck) := by
  unfold lenO
  rw [bindM_ap, getO_ap]
  cases e : ρ[i]? with
  | none => rfl
  | some s =>
    match s with
    | .cell (.l _) => rfl
    | .cell (.k _ _) => rfl
    | .no => rfl
    | .d _ => rfl
    | .exn _ => rfl
@[simp] theorem mtV_ap (T : String) (g : D → List D → Option D) (fo : M D) (fa : M (List D)) : mtV T g fo fa ρ = (match fo ρ with | .ok d ρ1 => if tyD T d = true then (match fa ρ1 with | .ok xs ρ2 => liftM (g d xs) ρ2 | .exc c ρ' => .exc c ρ' | .stuck => .stuck) else .stuck | .exc c ρ' => .exc c ρ' | .stuck => .stuck) := by
  unfold mtV tyM bindM
  cases e : fo ρ with
  | ok d ρ1 =>
    dsimp only
    by_cases h : tyD T d = true
    · simp only [h, if_true, pureM_ap]
      cases fa ρ1 <;> rfl
    · simp only [h]; rfl
  | _ => rfl
@[simp] theorem mtO_ap (i : Nat) (g : List D → List D → Option (D × List D)) (f : M (List D)) : mtO i g f ρ = (match getO i ρ with | .ok _ ρ0 => (match f ρ0 with | .ok ds ρ1 => (match getO i ρ1 with | .ok xs ρ2 => (match g xs ds with | some z => .ok z.1 (ρ2.set i (.own z.2)) | none => .stuck) | .exc c ρ' => .exc c ρ' | .stuck => .stuck) | .exc c ρ' => .exc c ρ' | .stuck => .stuck) | .exc c ρ' => .exc c ρ' | .stuck => .stuck) := by
  unfold mtO
  simp only [bindM_ap]
  cases e : getO i ρ with
  | ok x ρ0 =>
    dsimp only
    cases e2 : f ρ0 with
    | ok ds ρ1 =>
      dsimp only
      cases e3 : getO i ρ1 with
      | ok xs ρ2 =>
        dsimp only
        cases g xs ds <;> rfl
      | _ => rfl
    | _ => rfl
  | _ => rfl
/-! statements -/
@[simp] theorem seqM_ap (a b : MS) : seqM a b ρ = (match a ρ with | .ok .nx ρ' => b ρ' | r => r) := rfl
@[simp] theorem skipM_ap : skipM ρ = .ok .nx ρ := rfl
@[simp] theorem setM_ap (i : Nat) (f : M D) : setM i f ρ = (match f ρ with | .ok d ρ' => .ok .nx (ρ'.set i (.d d)) | .exc c ρ' => .exc c ρ' | .stuck => .stuck) := by
  unfold setM bindM
  cases f ρ <;> rfl
@[simp] theorem setOM_ap (i : Nat) (f : M (List D)) : setOM i f ρ = (match f ρ with | .ok d ρ' => .ok .nx (ρ'.set i (.own d)) | .exc c ρ' => .exc c ρ' | .stuck => .stuck) := by
  unfold setOM bindM
  cases f ρ <;> rfl
@[simp] theorem dropM_ap (f : M D) : dropM f ρ = (match f ρ with | .ok d ρ' => .ok .nx ρ' | .exc c ρ' => .exc c ρ' | .stuck => .stuck) := by
  unfold dropM bindM
  cases f ρ <;> rfl
@[simp] theorem retM_ap (f : M D) : retM f ρ = (match f ρ with | .ok d ρ' => .ok (.ret d) ρ' | .exc c ρ' => .exc c ρ' | .stuck => .stuck) := by
  unfold retM bindM
  cases f ρ <;> rfl
@[simp] theorem retOM_ap (f : M (List D)) : retOM f ρ = (match f ρ with | .ok d ρ' => .ok (.ret (.lst d)) ρ' | .exc c ρ' => .exc c ρ' | .stuck => .stuck) := by
  unfold retOM bindM
  cases f ρ <;> rfl
@[simp] theorem ifM_ap (c : M Bool) (a b : MS) : ifM c a b ρ = (match c ρ with | .ok true ρ' => a ρ' | .ok false ρ' => b ρ' | .exc c ρ' => .exc c ρ' | .stuck => .stuck) := by
  unfold ifM bindM
  cases e : c ρ with
  | ok d ρ' => cases d <;> rfl
  | _ => rfl
@[simp] theorem raiseM_ap (c : Str) : raiseM c ρ = .exc c ρ := rfl
@[simp] theorem giveM_ap (i : Nat) : giveM i ρ = (match ρ[i]? with | some (.cell (.l xs)) => .ok xs (ρ.set i .no) | _ => .stuck) := by
  unfold giveM
  rw [bindM_ap, getO_ap]
  cases e : ρ[i]? with
  | none => rfl
  | some s =>
    match s with
    | .cell (.l _) => rfl
    | .cell (.k _ _) => rfl
    | .no => rfl
    | .d _ => rfl
    | .exn _ => rfl
@[simp] theorem setIM_ap (i : Nat) (fk fe : M D) : setIM i fk fe ρ = (match fe ρ with | .ok d ρ1 => (match getO i ρ1 with | .ok _ ρ2 => (match fk ρ2 with | .ok z ρ3 => (match getO i ρ3 with | .ok xs ρ4 => (match ixSet xs z d with | some ys => .ok .nx (ρ4.set i (.own ys)) | none => .stuck) | .exc c ρ' => .exc c ρ' | .stuck => .stuck) | .exc c ρ' => .exc c ρ' | .stuck => .stuck) | .exc c ρ' => .exc c ρ' | .stuck => .stuck) | .exc c ρ' => .exc c ρ' | .stuck => .stuck) := by
  unfold setIM
  simp only [bindM_ap]
  cases e : fe ρ with
  | ok d ρ1 =>
    dsimp only
    cases e2 : getO i ρ1 with
    | ok x ρ2 =>
      dsimp only
      cases e3 : fk ρ2 with
      | ok z ρ3 =>
        dsimp only
        cases e4 : getO i ρ3 with
        | ok xs ρ4 =>
          dsimp only
          cases ixSet xs z d <;> rfl
        | _ => rfl
      | _ => rfl
    | _ => rfl
  | _ => rfl
@[simp] theorem forD_ap (it : M (List D)) (tg : TgF) (body : MS) : forD it tg body ρ = (match it ρ with | .ok xs ρ' => forM tg body xs ρ' | .exc c ρ' => .exc c ρ' | .stuck => .stuck) := by
  unfold forD bindM
  cases it ρ <;> rfl
@[simp] theorem asgM_ap (f : M D) (t : TgF) : asgM f t ρ = (match f ρ with | .ok d ρ' => (match t d ρ' with | some ρ2 => .ok .nx ρ2 | none => .stuck) | .exc c ρ' => .exc c ρ' | .stuck => .stuck) := by
  unfold asgM bindM
  cases f ρ <;> rfl
@[simp] theorem tgN_ap (i : Nat) (d : D) : tgN i d ρ = some (ρ.set i (.d d)) := rfl
@[simp] theorem callM_ap (f : Fn) (fa : M (List Ag)) : callM f fa ρ = (match fa ρ with | .ok ags ρ1 => if (slots ags).Nodup then (match f (ags.map (toSl ρ1)) with | .ok d os => .ok d (putBack ags os ρ1) | .exc c os => .exc c (putBack ags os ρ1) | .stuck => .stuck) else .stuck | .exc c ρ' => .exc c ρ' | .stuck => .stuck) := by
  unfold callM bindM
  cases fa ρ <;> rfl
@[simp] theorem callL_ap (f : Fn) (fa : M (List Ag)) : callL f fa ρ = (match callM f fa ρ with | .ok (.lst ds) ρ' => .ok ds ρ' | .ok _ _ => .stuck | .exc c ρ' => .exc c ρ' | .stuck => .stuck) := by
  unfold callL
  rw [bindM_ap]
  cases e : callM f fa ρ with
  | ok d ρ' => cases d <;> rfl
  | _ => rfl
@[simp] theorem mdM_ap (md : List Bool) (fa : M (List Ag)) : mdM md fa ρ = (match fa ρ with | .ok ags ρ1 => if (ags.map (toSl ρ1)).map isOwn = md then .ok ags ρ1 else .stuck | .exc c ρ' => .exc c ρ' | .stuck => .stuck) := by
  unfold mdM bindM
  cases fa ρ <;> rfl
@[simp] theorem exnM_ap (i : Nat) (g : Str → Option Bool) : exnM i g ρ = (match ρ[i]? with | some (.exn c) => (match g c with | some b => .ok (.bl b) ρ | none => .stuck) | _ => .stuck) := rfl
@[simp] theorem tryM_ap (i : Nat) (sub : Str → Option Bool) (body : MS) (suite : Str → MS) : tryM i sub body suite ρ = (match body ρ with
  | .exc c ρ1 => (match sub c with
    | some true => (match suite c (ρ1.set i (.exn c)) with
      | .ok fl ρ2 => if noExn (ρ2.set i .no) = true then .ok fl (ρ2.set i .no) else .stuck
      | _ => .stuck)
    | some false => .exc c ρ1
    | none => .stuck)
  | r => r) := by
  unfold tryM
  cases e : body ρ <;> rfl
theorem compO_ap (it : M (List D)) (tg : TgF) (tt : M Bool) (te : M D) (vs : List Nat) : compO it tg tt te vs ρ = (match it ρ with | .ok xs ρ1 => if plainB vs ρ1 = true then (match compGo tg tt te vs [] xs (wipeE ρ1 vs) with | .ok ys ρ' => .ok ys (restE ρ1 ρ' vs) | _ => .stuck) else .stuck | .exc c ρ' => .exc c ρ' | .stuck => .stuck) := by
  unfold compO bindM
  cases it ρ <;> rfl
end
@[simp] theorem fnM_ap (rm : Bool) (n : Nat) (body : MS) (ρ : DL.Env) : fnM rm n body ρ = (match body (ρ ++ List.replicate (n - ρ.length) .no) with
  | .ok .nx ρ' => if rm = true then .stuck else .ok .non (collect ρ ρ')
  | .ok (.ret d) ρ' => .ok d (collect ρ ρ')
  | .exc c ρ' => .exc c (collect ρ ρ')
  | _ => .stuck) := by
  unfold fnM
  cases e : body (ρ ++ List.replicate (n - ρ.length) .no) with
  | ok fl ρ' => cases fl <;> rfl
  | _ => rfl
@[simp] theorem toSl_d (ρ : DL.Env) (x : D) : toSl ρ (.d x) = .d x := rfl
@[simp] theorem toSl_s (ρ : DL.Env) (i : Nat) : toSl ρ (.sl i) = ρ.getD i .no := rfl
@[simp] theorem slots_nil : slots [] = [] := rfl
@[simp] theorem slots_d (x : D) (r : List Ag) : slots (.d x :: r) = slots r := rfl
@[simp] theorem slots_s (i : Nat) (r : List Ag) : slots (.sl i :: r) = i :: slots r := rfl
@[simp] theorem isOwn_d (x : D) : isOwn (.d x) = false := rfl
@[simp] theorem isOwn_o (x : OC) : isOwn (.cell x) = true := rfl
@[simp] theorem isOwn_e (c : Str) : isOwn (.exn c) = false := rfl
@[simp] theorem putBack_nil (os : List OC) (ρ : DL.Env) : putBack [] os ρ = ρ := rfl
@[simp] theorem putBack_d (x : D) (r : List Ag) (os : List OC) (ρ : DL.Env) : putBack (.d x :: r) os ρ = putBack r os ρ := rfl
@[simp] theorem collect_nil (b : DL.Env) : collect [] b = [] := by cases b <;> rfl
@[simp] theorem collect_d (x : D) (a : DL.Env) (s : Sl) (b : DL.Env) : collect (.d x :: a) (s :: b) = collect a b := by cases s <;> rfl
@[simp] theorem collect_o (x : OC) (a : DL.Env) (y : OC) (b : DL.Env) : collect (.cell x :: a) (.cell y :: b) = y :: collect a b := rfl
@[simp] theorem collect_e (c : Str) (a : DL.Env) (s : Sl) (b : DL.Env) : collect (.exn c :: a) (s :: b) = collect a b := by cases s <;> rfl
/-! ### values -/
@[simp] theorem le_size (n : Nat) (h : n ≤ 1000) : n ≤ sizeLine := by rw [sizeLine_eq]; omega
@[simp] theorem okD_non : okD .non = true := by decide
@[simp] theorem okD_bl (b : Bool) : okD (.bl b) = true := by cases b <;> decide
@[simp] theorem okD_int (i : Int) : okD (.int i) = true := by simp [okD, toPy, SeqAt.shaped, PyData.canLay0, PyData.depth]
@[simp] theorem eqv_int (i j : Int) : eqvD (.int i) (.int j) = decide (i = j) := by rw [Bool.eq_iff_iff]; simp [eqvD, toPy, PyData.eqv]
@[simp] theorem eqv_bl (i j : Bool) : eqvD (.bl i) (.bl j) = decide (i = j) := by rw [Bool.eq_iff_iff]; simp [eqvD, toPy, PyData.eqv]
@[simp] theorem eqv_str (i j : Str) : eqvD (.str i) (.str j) = decide (i = j) := by rw [Bool.eq_iff_iff]; simp [eqvD, toPy, PyData.eqv]
theorem eqD_ok {a b : D} (ha : okD a = true) (hb : okD b = true) : eqD a b = some (.bl (eqvD a b)) := by simp [eqD, ha, hb]
theorem neD_ok {a b : D} (ha : okD a = true) (hb : okD b = true) : neD a b = some (.bl (!eqvD a b)) := by simp [neD, ha, hb]
@[simp] theorem eqD_int (i j : Int) : eqD (.int i) (.int j) = some (.bl (decide (i = j))) := by simp [eqD]
@[simp] theorem neD_int (i j : Int) : neD (.int i) (.int j) = some (.bl (!decide (i = j))) := by simp [neD]
@[simp] theorem intD_int (f : Int → Int → Option D) (i j : Int) : intD f (.int i) (.int j) = f i j := rfl
@[simp] theorem subD_int (i j : Int) : subD (.int i) (.int j) = some (.int (i - j)) := rfl
@[simp] theorem addD_int (i j : Int) : addD (.int i) (.int j) = some (.int (i + j)) := rfl
@[simp] theorem ltD_int (i j : Int) : ltD (.int i) (.int j) = some (.bl (decide (i < j))) := rfl
@[simp] theorem leD_int (i j : Int) : leD (.int i) (.int j) = some (.bl (decide (i ≤ j))) := rfl
@[simp] theorem gtD_int (i j : Int) : gtD (.int i) (.int j) = some (.bl (decide (j < i))) := rfl
@[simp] theorem geD_int (i j : Int) : geD (.int i) (.int j) = some (.bl (decide (j ≤ i))) := rfl
@[simp] theorem modD_int (i j : Int) (h : 0 < j) : modD (.int i) (.int j) = some (.int (i % j)) := by simp [modD, h]
@[simp] theorem divD_int (i j : Int) (h : 0 < j) (h2 : j < 1073741824) : divD (.int i) (.int j) = some (.int (i / j)) := by simp [divD, CDiv, h, h2]
theorem mulD_l (i j : Int) (h : -(2 ^ 64) < i) (h2 : i < 2 ^ 64) : mulD (.int i) (.int j) = some (.int (i * j)) := by
  have c : CMul i j := .inl ⟨h, h2⟩
  simp [mulD, c]
end DL
namespace DL
open PySem PySem.Spec L2
open PyProof.Rows hiding St
/-! ### comprehensions of pure items -/
@[simp] theorem plain_no : plain .no = true := rfl
@[simp] theorem plain_d (x : D) : plain (.d x) = true := rfl
/-! ### what == asks of data: signs, depth -/
def layD (d : D) : Bool := (toPy d).canLay0
def dpD (d : D) : Nat := (toPy d).depth
theorem okD_of {d : D} (h : layD d = true) (h2 : dpD d ≤ 64) : okD d = true := by
  unfold okD SeqAt.shaped
  rw [Bool.and_eq_true]
  exact ⟨h, decide_eq_true h2⟩
theorem layD_of {d : D} (h : okD d = true) : layD d = true := SeqAt.canLay_of_shaped h
theorem canAll : ∀ xs : List D, PyData.canLayAll0 (toPyL xs) = xs.all layD
  | [] => rfl
  | x :: xs => by
    show ((toPy x).canLay0 && PyData.canLayAll0 (toPyL xs)) = _
    rw [canAll xs]; rfl
theorem layD_tup (xs : List D) : layD (.tup xs) = xs.all layD := canAll xs
theorem layD_lst (xs : List D) : layD (.lst xs) = xs.all layD := canAll xs
theorem dpL_le {xs : List D} {n : Nat} (h : ∀ x ∈ xs, dpD x ≤ n) : PyData.depthAll (toPyL xs) ≤ n := by
  induction xs with
  | nil => simp [toPyL, PyData.depthAll]
  | cons x xs ih =>
    have h1 := h x List.mem_cons_self
    have h2 := ih fun y hy => h y (List.mem_cons_of_mem _ hy)
    simp only [toPyL, PyData.depthAll]
    unfold dpD at h1
    omega
theorem dpD_tup {xs : List D} {n : Nat} (h : ∀ x ∈ xs, dpD x ≤ n) : dpD (.tup xs) ≤ n + 1 := by
  have := dpL_le h
  unfold dpD
  simp only [toPy, PyData.depth]
  omega
theorem dpD_lst {xs : List D} {n : Nat} (h : ∀ x ∈ xs, dpD x ≤ n) : dpD (.lst xs) ≤ n + 1 := by
  have := dpL_le h
  unfold dpD
  simp only [toPy, PyData.depth]
  omega
@[simp] theorem layD_int (i : Int) : layD (.int i) = true := by simp [layD, toPy, PyData.canLay0]
@[simp] theorem dpD_int (i : Int) : dpD (.int i) = 0 := by simp [dpD, toPy, PyData.depth]
@[simp] theorem dpD_str (i : Str) : dpD (.str i) = 0 := by simp [dpD, toPy, PyData.depth]
@[simp] theorem dpD_bl (i : Bool) : dpD (.bl i) = 0 := by simp [dpD, toPy, PyData.depth]
/-! equality, by parts -/
theorem eqvL : ∀ xs ys : List D, PyData.eqvAll (toPyL xs) (toPyL ys) = (decide (xs.length = ys.length) && (xs.zip ys).all fun p => eqvD p.1 p.2)
  | [], [] => by simp [toPyL, PyData.eqvAll]
  | [], y :: ys => by simp [toPyL, PyData.eqvAll]
  | x :: xs, [] => by simp [toPyL, PyData.eqvAll]
  | x :: xs, y :: ys => by
    simp only [toPyL, PyData.eqvAll, eqvL xs ys, List.zip_cons_cons, List.all_cons, List.length_cons, Nat.add_right_cancel_iff, eqvD]
    cases (toPy x).eqv (toPy y) <;> cases decide (xs.length = ys.length) <;> simp
theorem eqv_tup (xs ys : List D) : eqvD (.tup xs) (.tup ys) = (decide (xs.length = ys.length) && (xs.zip ys).all fun p => eqvD p.1 p.2) := by
  unfold eqvD; simp only [toPy, PyData.eqv]; exact eqvL xs ys
theorem eqv_lst (xs ys : List D) : eqvD (.lst xs) (.lst ys) = (decide (xs.length = ys.length) && (xs.zip ys).all fun p => eqvD p.1 p.2) := by
  unfold eqvD; simp only [toPy, PyData.eqv]; exact eqvL xs ys
end DL
end
section
namespace DL
open PySem PySem.Spec L2 DLS
open PyProof.Rows hiding St
section
variable {α β : Type} {ρ : DL.Env}
@[simp] theorem itemsGM_ap (f : M D) : itemsGM f ρ = (match f ρ with | .ok d ρ2 => liftM (itemsG d) ρ2 | .exc c ρ' => .exc c ρ' | .stuck => .stuck) := by
  unfold itemsGM bindM
  cases f ρ <;> rfl
theorem fldM_ap (c f : Str) (fo : M D) : fldM c f fo ρ = (match fo ρ with | .ok (.ins c' ns ds) ρ2 => if c' = c then liftM (fldD f ns ds) ρ2 else .stuck | .ok _ _ => .stuck | .exc c ρ' => .exc c ρ' | .stuck => .stuck) := by
  unfold fldM bindM
  cases e : fo ρ with
  | ok d ρ' =>
    cases d with
    | ins c' ns ds =>
      dsimp only
      by_cases h : c' = c
      · simp only [h, if_true]
      · simp only [h, if_false]; rfl
    | _ => rfl
  | _ => rfl
theorem methD_ap (c nm : Str) (md : List Bool) (f : Fn) (fo : M D) (fa : M (List Ag)) : methD c nm md f fo fa ρ = (match fo ρ with | .ok (.ins c' ns ds) ρ2 => if c' = c ∧ nm ∉ ns then callM f (mdM md (bindM fa fun ags => pureM (.d (.ins c' ns ds) :: ags))) ρ2 else .stuck | .ok _ _ => .stuck | .exc c ρ' => .exc c ρ' | .stuck => .stuck) := by
  unfold methD
  rw [bindM_ap]
  cases e : fo ρ with
  | ok d ρ' =>
    cases d with
    | ins c' ns ds =>
      dsimp only
      by_cases h : c' = c ∧ nm ∉ ns
      · simp only [h, not_false_eq_true, and_self, if_true]
      · simp only [h, if_false]; rfl
    | _ => rfl
  | _ => rfl
@[simp] theorem chainM_ap (g g' : D → D → Option D) (fa fb fc : M D) : chainM g g' fa fb fc ρ = (match fa ρ with | .ok x ρ1 => (match fb ρ1 with | .ok y ρ2 => (match g x y with | some (.bl true) => (match fc ρ2 with | .ok z ρ3 => liftM (g' y z) ρ3 | .exc c ρ' => .exc c ρ' | .stuck => .stuck) | some (.bl false) => .ok (.bl false) ρ2 | _ => .stuck) | .exc c ρ' => .exc c ρ' | .stuck => .stuck) | .exc c ρ' => .exc c ρ' | .stuck => .stuck) := by
  unfold chainM
  rw [bindM_ap]
  cases fa ρ with
  | ok x ρ1 =>
    dsimp only
    rw [bindM_ap]
    cases fb ρ1 with
    | ok y ρ2 =>
      dsimp only
      rw [bindM_ap]
      cases g x y with
      | none => rfl
      | some d =>
        cases d with
        | bl b =>
          cases b with
          | true =>
            dsimp only [liftM, pureM]
            rw [bindM_ap]
            cases fc ρ2 <;> rfl
          | false => rfl
        | _ => rfl
    | _ => rfl
  | _ => rfl
@[simp] theorem partM_ap (f : M D) : partM f ρ = (match f ρ with | .ok (.int i) ρ2 => .ok (some i) ρ2 | .ok _ _ => .stuck | .exc c ρ' => .exc c ρ' | .stuck => .stuck) := by
  unfold partM bindM
  cases e : f ρ with
  | ok d ρ' => cases d <;> rfl
  | _ => rfl
@[simp] theorem slM_ap (fe : M D) (fl fh : M (Option Int)) : slM fe fl fh ρ = (match fe ρ with | .ok x ρ1 => (match fl ρ1 with | .ok l ρ2 => (match fh ρ2 with | .ok h ρ3 => liftM (slD l h x) ρ3 | .exc c ρ' => .exc c ρ' | .stuck => .stuck) | .exc c ρ' => .exc c ρ' | .stuck => .stuck) | .exc c ρ' => .exc c ρ' | .stuck => .stuck) := by
  unfold slM bindM
  cases fe ρ with
  | ok x ρ1 =>
    dsimp only
    cases fl ρ1 with
    | ok l ρ2 =>
      dsimp only
      cases fh ρ2 <;> rfl
    | _ => rfl
  | _ => rfl
@[simp] theorem catM_ap (fa fb : M D) : catM fa fb ρ = (match fa ρ with | .ok x ρ1 => (match fb ρ1 with | .ok y ρ2 => liftM (catD x y) ρ2 | .exc c ρ' => .exc c ρ' | .stuck => .stuck) | .exc c ρ' => .exc c ρ' | .stuck => .stuck) := by
  unfold catM bindM
  cases fa ρ with
  | ok x r1 =>
    dsimp only
    cases fb r1 <;> rfl
  | _ => rfl
@[simp] theorem lendM_ap (f : M D) : lendM f ρ = (match f (dataE ρ) with | .ok d _ => if atomD d = true then .ok d ρ else .stuck | _ => .stuck) := rfl
@[simp] theorem lendT_ap (f : M Bool) : lendT f ρ = (match f (dataE ρ) with | .ok b _ => .ok b ρ | _ => .stuck) := rfl
@[simp] theorem dataE_nil : dataE [] = [] := rfl
@[simp] theorem dataE_cons (s : Sl) (r : DL.Env) : dataE (s :: r) = dataS s :: dataE r := rfl
@[simp] theorem dataS_d (x : D) : dataS (.d x) = .d x := rfl
@[simp] theorem dataS_no : dataS .no = .no := rfl
@[simp] theorem dataS_cell (c : OC) : dataS (.cell c) = .d (ocD c) := rfl
@[simp] theorem dataS_exn (c : Str) : dataS (.exn c) = .exn c := rfl
@[simp] theorem getC_ap (i : Nat) : getC i ρ = (match ρ[i]? with | some (.cell c) => .ok c ρ | _ => .stuck) := rfl
@[simp] theorem putC_ap (i : Nat) (c : OC) : putC i c ρ = .ok () (ρ.set i (.cell c)) := rfl
@[simp] theorem setCM_ap (i : Nat) (f : M OC) : setCM i f ρ = (match f ρ with | .ok c ρ' => .ok .nx (ρ'.set i (.cell c)) | .exc c ρ' => .exc c ρ' | .stuck => .stuck) := by
  unfold setCM bindM
  cases f ρ <;> rfl
@[simp] theorem setXM_ap (i : Nat) (f : M D) : setXM i f ρ = (match f ρ with | .ok d ρ' => (match conOf d with | some c => .ok .nx (ρ'.set i (.cell c)) | none => .ok .nx (ρ'.set i (.d d))) | .exc c ρ' => .exc c ρ' | .stuck => .stuck) := by
  unfold setXM bindM
  cases e : f ρ with
  | ok d ρ' => first | (dsimp only; done) | (dsimp only; cases conOf d <;> rfl) | (cases conOf d <;> rfl)
  | _ => rfl
@[simp] theorem conOf_lst (xs : List D) : conOf (.lst xs) = some (.l xs) := rfl
@[simp] theorem conOf_dic (ks vs : List D) : conOf (.dic ks vs) = some (.k ks vs) := rfl
@[simp] theorem conOf_bl (b : Bool) : conOf (.bl b) = none := rfl
@[simp] theorem conOf_int (b : Int) : conOf (.int b) = none := rfl
@[simp] theorem conOf_str (b : Str) : conOf (.str b) = none := rfl
@[simp] theorem conOf_non : conOf .non = none := rfl
@[simp] theorem conOf_tup (xs : List D) : conOf (.tup xs) = none := rfl
@[simp] theorem ocL_ap (f : M (List D)) : ocL f ρ = (match f ρ with | .ok d ρ' => .ok (.l d) ρ' | .exc c ρ' => .exc c ρ' | .stuck => .stuck) := by
  unfold ocL bindM
  cases f ρ <;> rfl
@[simp] theorem ocM_ap (f : M OC) : ocM f ρ = (match f ρ with | .ok d ρ' => .ok (ocD d) ρ' | .exc c ρ' => .exc c ρ' | .stuck => .stuck) := by
  unfold ocM bindM
  cases f ρ <;> rfl
@[simp] theorem consC_ap (f : M OC) (g : M (List Ag)) : consC f g ρ = (match f ρ with | .ok x ρ1 => (match g ρ1 with | .ok xs ρ2 => .ok (.tmp x :: xs) ρ2 | .exc c ρ' => .exc c ρ' | .stuck => .stuck) | .exc c ρ' => .exc c ρ' | .stuck => .stuck) := by
  unfold consC bindM
  cases f ρ with
  | ok x r1 =>
    dsimp only
    cases g r1 <;> rfl
  | _ => rfl
@[simp] theorem retXM_ap (f : M D) : retXM f ρ = (match f ρ with | .ok d ρ' => (match conOf d with | some _ => .stuck | none => .ok (.ret d) ρ') | .exc c ρ' => .exc c ρ' | .stuck => .stuck) := by
  unfold retXM bindM
  cases e : f ρ with
  | ok d ρ' =>
    dsimp only
    cases conOf d <;> rfl
  | _ => rfl
@[simp] theorem giveX_ap (i : Nat) : giveX i ρ = (match ρ[i]? with | some (.cell c) => .ok (ocD c) (ρ.set i .no) | _ => .stuck) := by
  unfold giveX
  rw [bindM_ap, getC_ap]
  cases e : ρ[i]? with
  | none => rfl
  | some s => cases s <;> rfl
@[simp] theorem setGM_ap (g : OC → D → D → Option OC) (i : Nat) (fk fe : M D) : setGM g i fk fe ρ = (match fe ρ with | .ok d ρ1 => (match getC i ρ1 with | .ok _ ρ2 => (match fk ρ2 with | .ok z ρ3 => (match getC i ρ3 with | .ok c ρ4 => (match g c z d with | some c' => .ok .nx (ρ4.set i (.cell c')) | none => .stuck) | .exc c ρ' => .exc c ρ' | .stuck => .stuck) | .exc c ρ' => .exc c ρ' | .stuck => .stuck) | .exc c ρ' => .exc c ρ' | .stuck => .stuck) | .exc c ρ' => .exc c ρ' | .stuck => .stuck) := by
  unfold setGM
  simp only [bindM_ap]
  cases e : fe ρ with
  | ok d ρ1 =>
    dsimp only
    cases e2 : getC i ρ1 with
    | ok x ρ2 =>
      dsimp only
      cases e3 : fk ρ2 with
      | ok z ρ3 =>
        dsimp only
        cases e4 : getC i ρ3 with
        | ok xs ρ4 =>
          dsimp only
          cases g xs z d <;> rfl
        | _ => rfl
      | _ => rfl
    | _ => rfl
  | _ => rfl
@[simp] theorem opC_ap (i : Nat) (g : OC → D → Option D) (fb : M D) : opC i g fb ρ = (match fb ρ with | .ok y ρ1 => (match getC i ρ1 with | .ok xs ρ2 => liftM (g xs y) ρ2 | .exc c ρ' => .exc c ρ' | .stuck => .stuck) | .exc c ρ' => .exc c ρ' | .stuck => .stuck) := by
  unfold opC bindM
  cases fb ρ with
  | ok x r1 =>
    dsimp only
    cases getC i r1 <;> rfl
  | _ => rfl
@[simp] theorem revM_ap (f : M D) : revM f ρ = (match f ρ with | .ok (.lst xs) ρ' => .ok (.lst xs.reverse) ρ' | .ok _ _ => .stuck | .exc c ρ' => .exc c ρ' | .stuck => .stuck) := by
  unfold revM bindM
  cases e : f ρ with
  | ok d ρ' => cases d <;> rfl
  | _ => rfl
@[simp] theorem parM_ap (i j : Nat) (f : M (List D)) : parM i j f ρ = (match f ρ with | .ok [x, y] ρ' => .ok .nx ((ρ'.set i (.d x)).set j (.d y)) | .ok _ _ => .stuck | .exc c ρ' => .exc c ρ' | .stuck => .stuck) := by
  unfold parM bindM
  cases e : f ρ with
  | ok d ρ' =>
    match d with
    | [] => rfl
    | [_] => rfl
    | [_, _] => rfl
    | _ :: _ :: _ :: _ => rfl
  | _ => rfl
@[simp] theorem makeM_ap (n : Nat) (fI : List D → Res D) (fa : M (List D)) : makeM n fI fa ρ = (match fa ρ with | .ok as ρ1 => if as.length = n ∧ noInsL as = true then (match fI as with | .ok d _ => .ok d ρ1 | .exc e _ => .exc e ρ1 | .stuck => .stuck) else .stuck | .exc c ρ' => .exc c ρ' | .stuck => .stuck) := by
  unfold makeM bindM
  cases fa ρ <;> rfl
@[simp] theorem pairsM_nil : pairsM [] ρ = .ok [] ρ := rfl
@[simp] theorem pairsM_cons (fk fv : M D) (r : List (M D × M D)) : pairsM ((fk, fv) :: r) ρ = (match fk ρ with | .ok x ρ1 => (match fv ρ1 with | .ok y ρ2 => (match pairsM r ρ2 with | .ok ps ρ3 => .ok ((x, y) :: ps) ρ3 | .exc c ρ' => .exc c ρ' | .stuck => .stuck) | .exc c ρ' => .exc c ρ' | .stuck => .stuck) | .exc c ρ' => .exc c ρ' | .stuck => .stuck) := by
  show bindM fk _ ρ = _
  rw [bindM_ap]
  cases fk ρ with
  | ok x ρ1 =>
    dsimp only
    rw [bindM_ap]
    cases fv ρ1 with
    | ok y ρ2 =>
      dsimp only
      rw [bindM_ap]
      cases pairsM r ρ2 <;> rfl
    | _ => rfl
  | _ => rfl
@[simp] theorem dicC_ap (fs : List (M D × M D)) : dicC fs ρ = (match pairsM fs ρ with | .ok ps ρ1 => if difK (ps.map (·.1)) = true ∧ ps.length ≤ 15 then .ok (.k (ps.map (·.1)) (ps.map (·.2))) ρ1 else .stuck | .exc c ρ' => .exc c ρ' | .stuck => .stuck) := by
  unfold dicC
  rw [bindM_ap]
  cases e : pairsM fs ρ with
  | ok ps ρ1 =>
    dsimp only
    split <;> rfl
  | _ => rfl
@[simp] theorem dicM_ap (fs : List (M D × M D)) : dicM fs ρ = (match pairsM fs ρ with | .ok ps ρ1 => if difK (ps.map (·.1)) = true ∧ ps.length ≤ 15 then .ok (.dic (ps.map (·.1)) (ps.map (·.2))) ρ1 else .stuck | .exc c ρ' => .exc c ρ' | .stuck => .stuck) := by
  unfold dicM
  rw [bindM_ap]
  cases e : pairsM fs ρ with
  | ok ps ρ1 =>
    dsimp only
    split <;> rfl
  | _ => rfl
@[simp] theorem ifRaise_ap (f : M Bool) (e : Str) : ifRaise f e ρ = (match f ρ with | .ok b ρ' => if iniC ρ' = true then (if b = true then .exc e ρ' else .ok .nx ρ') else .stuck | .exc c ρ' => .exc c ρ' | .stuck => .stuck) := by
  unfold ifRaise atM
  cases h : f ρ with
  | ok b ρ' => cases b <;> rfl
  | _ => rfl
@[simp] theorem setFM_ap (c f : Str) (fe : M D) : setFM c f fe ρ = (match fe ρ with | .ok d ρ' => if iniC ρ' = true then (match (ρ'[0]? : Option Sl) with | some (.d (.ins c' ns ds)) => if c' = c ∧ f ∉ ns ∧ noIns d = true ∧ ns.length < 1000 then .ok .nx (ρ'.set 0 (.d (.ins c' (ns ++ [f]) (ds ++ [d])))) else .stuck | _ => .stuck) else .stuck | .exc c ρ' => .exc c ρ' | .stuck => .stuck) := by
  unfold setFM atM
  cases fe ρ <;> rfl
@[simp] theorem forIfM_ap (i : Nat) (fi : M (List D)) (f : M Bool) (e : Str) : forIfM i fi f e ρ = (match fi ρ with | .ok ds ρ' => if iniC ρ' = true then forIfGo i f e ds ρ' else .stuck | .exc c ρ' => .exc c ρ' | .stuck => .stuck) := by
  unfold forIfM atM
  cases fi ρ <;> rfl
end
theorem tgU_ap (n : Nat) (t : TgsF) (d : D) (ρ : DL.Env) : tgU n t d ρ = (match d with | .tup ds => if ds.length = n then t ds ρ else none | _ => none) := rfl
@[simp] theorem tgs0_nil (ρ : DL.Env) : tgs0 [] ρ = some ρ := rfl
@[simp] theorem tgs1_cons (t : TgF) (u : TgsF) (d : D) (r : List D) (ρ : DL.Env) : tgs1 t u (d :: r) ρ = (t d ρ).bind (u r) := rfl
@[simp] theorem itemsG_lst (xs : List D) : itemsG (.lst xs) = some xs := rfl
@[simp] theorem itemsG_tup (xs : List D) : itemsG (.tup xs) = some xs := rfl
@[simp] theorem itemsG_dic (ks vs : List D) : itemsG (.dic ks vs) = if ks.all isK = true then some ks else none := rfl
@[simp] theorem toSl_t (ρ : DL.Env) (c : OC) : toSl ρ (.tmp c) = .cell c := rfl
@[simp] theorem slots_t (c : OC) (r : List Ag) : slots (.tmp c :: r) = slots r := rfl
@[simp] theorem putBack_t (c : OC) (r : List Ag) (os : List OC) (ρ : DL.Env) : putBack (.tmp c :: r) os ρ = putBack r (os.drop 1) ρ := rfl
@[simp] theorem collect_n (a : DL.Env) (s : Sl) (b : DL.Env) : collect (.no :: a) (s :: b) = collect a b := by cases s <;> rfl
@[simp] theorem lenG_lst (xs : List D) : lenG [.lst xs] = some (.int xs.length) := rfl
@[simp] theorem lenG_tup (xs : List D) : lenG [.tup xs] = some (.int xs.length) := rfl
@[simp] theorem lenG_dic (ks vs : List D) (h : ks.all isK = true) : lenG [.dic ks vs] = some (.int ks.length) := by simp [lenG, lenD, lenK, h]
@[simp] theorem listCD_lst (xs : List D) : listCD [.lst xs] = some xs := rfl
@[simp] theorem listCD_tup (xs : List D) : listCD [.tup xs] = some xs := rfl
@[simp] theorem tupC_lst (xs : List D) : tupC [.lst xs] = some (.tup xs) := rfl
@[simp] theorem tupC_tup (xs : List D) : tupC [.tup xs] = some (.tup xs) := rfl
theorem boolsOf_map : ∀ bs : List Bool, boolsOf (bs.map D.bl) = some bs
  | [] => rfl
  | b :: bs => by simp [boolsOf, boolsOf_map bs]
@[simp] theorem allD_bl {α : Type} (f : α → Bool) (xs : List α) : allD [.lst (xs.map fun x => D.bl (f x))] = some (.bl (xs.all f)) := by
  have : (xs.map fun x => D.bl (f x)) = (xs.map f).map D.bl := by rw [List.map_map]; rfl
  rw [this]
  show (boolsOf _).map _ = _
  rw [boolsOf_map]
  simp [List.all_map]
@[simp] theorem anyD_bl {α : Type} (f : α → Bool) (xs : List α) : anyD [.lst (xs.map fun x => D.bl (f x))] = some (.bl (xs.any f)) := by
  have : (xs.map fun x => D.bl (f x)) = (xs.map f).map D.bl := by rw [List.map_map]; rfl
  rw [this]
  show (boolsOf _).map _ = _
  rw [boolsOf_map]
  simp [List.any_map]
@[simp] theorem boolsOf_nil : boolsOf [] = some [] := rfl
@[simp] theorem ltA_int (i j : Int) : ltA (.int i) (.int j) = some (.bl (decide (i < j))) := rfl
@[simp] theorem leA_int (i j : Int) : leA (.int i) (.int j) = some (.bl (decide (i ≤ j))) := rfl
@[simp] theorem gtA_int (i j : Int) : gtA (.int i) (.int j) = some (.bl (decide (j < i))) := rfl
@[simp] theorem geA_int (i j : Int) : geA (.int i) (.int j) = some (.bl (decide (j ≤ i))) := rfl
@[simp] theorem ixX_tup (xs : List D) (i : Int) (d : D) (h : atI xs i = some d) : ixX (.tup xs) (.int i) = some d := by simp [ixX, ixG, ixD, h]
@[simp] theorem ixX_lst (xs : List D) (i : Int) (d : D) (h : atI xs i = some d) : ixX (.lst xs) (.int i) = some d := by simp [ixX, ixG, ixD, h]
@[simp] theorem ix2_0 (a b : D) : ixX (.tup [a, b]) (.int 0) = some a := rfl
@[simp] theorem ix2_1 (a b : D) : ixX (.tup [a, b]) (.int 1) = some b := rfl
@[simp] theorem ix3_0 (a b c : D) : ixX (.tup [a, b, c]) (.int 0) = some a := rfl
@[simp] theorem ix3_1 (a b c : D) : ixX (.tup [a, b, c]) (.int 1) = some b := rfl
@[simp] theorem ix3_2 (a b c : D) : ixX (.tup [a, b, c]) (.int 2) = some c := rfl
@[simp] theorem atI_nat {α : Type} (xs : List α) (k : Nat) : atI xs (k : Int) = xs[k]? := by
  unfold atI ixN
  by_cases h : k < xs.length
  · simp [h]
  · have : ¬ ((k : Int) < (xs.length : Int)) := by omega
    simp [this]
    omega
end DL
end
section
namespace DL
open PySem PySem.Spec L2 DLS
open PyProof.Rows hiding St
/-! ### typed data that are keys: numbers, texts, tuples -/
mutual
theorem toPy_nk : ∀ k j : NestedKey, eqvD (nkD k) (nkD j) = decide (k = j)
  | .none, .none => by simp [nkD, eqvD, toPy, PyData.eqv]
  | .num a, .num b => by rw [nkD, nkD, eqv_int]; simp
  | .text a, .text b => by rw [nkD, nkD, eqv_str]; simp
  | .tup ks, .tup js => by
    simp only [nkD, eqvD, toPy, PyData.eqv]
    rw [toPy_nks ks js]
    simp
  | .none, .num _ => by simp [nkD, eqvD, toPy, PyData.eqv]
  | .none, .text _ => by simp [nkD, eqvD, toPy, PyData.eqv]
  | .none, .tup _ => by simp [nkD, eqvD, toPy, PyData.eqv]
  | .num _, .none => by simp [nkD, eqvD, toPy, PyData.eqv]
  | .num _, .text _ => by simp [nkD, eqvD, toPy, PyData.eqv]
  | .num _, .tup _ => by simp [nkD, eqvD, toPy, PyData.eqv]
  | .text _, .none => by simp [nkD, eqvD, toPy, PyData.eqv]
  | .text _, .num _ => by simp [nkD, eqvD, toPy, PyData.eqv]
  | .text _, .tup _ => by simp [nkD, eqvD, toPy, PyData.eqv]
  | .tup _, .none => by simp [nkD, eqvD, toPy, PyData.eqv]
  | .tup _, .num _ => by simp [nkD, eqvD, toPy, PyData.eqv]
  | .tup _, .text _ => by simp [nkD, eqvD, toPy, PyData.eqv]
theorem toPy_nks : ∀ ks js : List NestedKey, PyData.eqvAll (toPyL (nkDs ks)) (toPyL (nkDs js)) = decide (ks = js)
  | [], [] => by simp [nkDs, toPyL, PyData.eqvAll]
  | [], j :: js => by simp [nkDs, toPyL, PyData.eqvAll]
  | k :: ks, [] => by simp [nkDs, toPyL, PyData.eqvAll]
  | k :: ks, j :: js => by
    simp only [nkDs, toPyL, PyData.eqvAll]
    have h1 : PyData.eqv (toPy (nkD k)) (toPy (nkD j)) = decide (k = j) := toPy_nk k j
    rw [h1, toPy_nks ks js]
    simp
end
mutual
/-- texts without odd signs -/
def okN : NestedKey → Bool
  | .none => true
  | .num _ => true
  | .text x => PyData.strOk x
  | .tup ks => okNs ks
def okNs : List NestedKey → Bool
  | [] => true
  | k :: ks => okN k && okNs ks
end
mutual
theorem lay_nk : ∀ k : NestedKey, (toPy (nkD k)).canLay0 = okN k
  | .none => rfl
  | .num _ => rfl
  | .text _ => rfl
  | .tup ks => lay_nks ks
theorem lay_nks : ∀ ks : List NestedKey, PyData.canLayAll0 (toPyL (nkDs ks)) = okNs ks
  | [] => rfl
  | k :: ks => by
    simp only [nkDs, toPyL, PyData.canLayAll0, okNs]
    rw [lay_nk k, lay_nks ks]
end
mutual
theorem dep_nk : ∀ k : NestedKey, (toPy (nkD k)).depth = k.depth
  | .none => rfl
  | .num _ => rfl
  | .text _ => rfl
  | .tup ks => by
    simp only [nkD, toPy, PyData.depth, NestedKey.depth]
    rw [dep_nks ks]
theorem dep_nks : ∀ ks : List NestedKey, PyData.depthAll (toPyL (nkDs ks)) = NestedKey.depthAll ks
  | [] => rfl
  | k :: ks => by
    simp only [nkDs, toPyL, PyData.depthAll, NestedKey.depthAll]
    rw [dep_nk k, dep_nks ks]
end
class Kl (α : Type) where
  nk : α → NestedKey
  inj : ∀ a b, nk a = nk b → a = b
  ok : ∀ a, okN (nk a) = true
  dp : Nat
  dep : ∀ a, (nk a).depth ≤ dp
  le : dp ≤ 8
  alk : ∀ a b, PySem.W.alike (toPy (nkD (nk a))) (toPy (nkD (nk b))) = true
  nn : ∀ a, isNb (nkD (nk a)) = false
  tn : (∀ a, isTup (nkD (nk a)) = true) ∨ (∀ a, notTup (nkD (nk a)) = true)
def enc {α : Type} [Kl α] (a : α) : D := nkD (Kl.nk a)
section
variable {α : Type} [Kl α]
theorem okD_enc (a : α) : okD (enc a) = true := by
  unfold okD SeqAt.shaped enc
  rw [Bool.and_eq_true]
  refine ⟨by rw [lay_nk]; exact Kl.ok a, decide_eq_true ?_⟩
  rw [dep_nk]
  have := Kl.dep a
  have := Kl.le (α := α)
  omega
theorem eqvD_enc [DecidableEq α] (a b : α) : eqvD (enc a) (enc b) = decide (a = b) := by
  unfold enc
  rw [toPy_nk]
  by_cases h : a = b
  · subst h; simp
  · have : ¬ Kl.nk a = Kl.nk b := fun z => h (Kl.inj a b z)
    simp [h, this]
@[simp] theorem eqD_enc [DecidableEq α] (a b : α) : eqD (enc a) (enc b) = some (.bl (decide (a = b))) := by rw [eqD_ok (okD_enc a) (okD_enc b), eqvD_enc]
@[simp] theorem neD_enc [DecidableEq α] (a b : α) : neD (enc a) (enc b) = some (.bl (!decide (a = b))) := by rw [neD_ok (okD_enc a) (okD_enc b), eqvD_enc]
theorem lays_enc (xs : List α) : (xs.map enc).all layD = true := by
  rw [List.all_map, List.all_eq_true]
  intro a _
  exact layD_of (okD_enc a)
theorem dps_enc (xs : List α) : ∀ x ∈ xs.map enc, dpD x ≤ 8 := by
  intro x hx
  obtain ⟨a, _, rfl⟩ := List.mem_map.mp hx
  unfold dpD enc
  rw [dep_nk]
  have := Kl.dep a
  have := Kl.le (α := α)
  omega
theorem okD_lst (xs : List α) : okD (.lst (xs.map enc)) = true := okD_of (by rw [layD_lst]; exact lays_enc xs) (by have := dpD_lst (dps_enc xs); omega)
theorem okD_tup (xs : List α) : okD (.tup (xs.map enc)) = true := okD_of (by rw [layD_tup]; exact lays_enc xs) (by have := dpD_tup (dps_enc xs); omega)
theorem any_enc [DecidableEq α] (a : α) (xs : List α) : ((xs.map enc).any fun z => eqvD z (enc a)) = decide (a ∈ xs) := by
  induction xs with
  | nil => simp
  | cons x xs ih =>
    rw [List.map_cons, List.any_cons, ih, eqvD_enc]
    by_cases h : a = x
    · subst h; simp
    · have : ¬ x = a := fun z => h z.symm
      simp [h, this]
@[simp] theorem inX_lst [DecidableEq α] (a : α) (xs : List α) : inX (enc a) (.lst (xs.map enc)) = some (.bl (decide (a ∈ xs))) := by
  unfold inX inD
  simp only [okD_enc, okD_lst, Bool.and_self, if_true, any_enc]; rfl
@[simp] theorem inX_tup [DecidableEq α] (a : α) (xs : List α) : inX (enc a) (.tup (xs.map enc)) = some (.bl (decide (a ∈ xs))) := by
  unfold inX inD
  simp only [okD_enc, okD_tup, Bool.and_self, if_true, any_enc]; rfl
@[simp] theorem ninX_lst [DecidableEq α] (a : α) (xs : List α) : ninX (enc a) (.lst (xs.map enc)) = some (.bl (!decide (a ∈ xs))) := by
  unfold ninX ninD inD
  simp only [okD_enc, okD_lst, Bool.and_self, if_true, any_enc]; rfl
@[simp] theorem ninX_tup [DecidableEq α] (a : α) (xs : List α) : ninX (enc a) (.tup (xs.map enc)) = some (.bl (!decide (a ∈ xs))) := by
  unfold ninX ninD inD
  simp only [okD_enc, okD_tup, Bool.and_self, if_true, any_enc]; rfl
theorem eqv_lst_enc [DecidableEq α] (xs ys : List α) : eqvD (.lst (xs.map enc)) (.lst (ys.map enc)) = decide (xs = ys) := by
  rw [eqv_lst]
  induction xs generalizing ys with
  | nil => cases ys <;> simp
  | cons x xs ih =>
    cases ys with
    | nil => simp
    | cons y ys =>
      have := ih ys
      simp only [List.map_cons, List.length_cons, List.zip_cons_cons, List.all_cons, Nat.add_right_cancel_iff, eqvD_enc, List.cons.injEq] at this ⊢
      rw [← Bool.and_assoc, Bool.and_comm (decide _) (decide _), Bool.and_assoc, this]
      simp
@[simp] theorem eqD_lst_enc [DecidableEq α] (xs ys : List α) : eqD (.lst (xs.map enc)) (.lst (ys.map enc)) = some (.bl (decide (xs = ys))) := by rw [eqD_ok (okD_lst _) (okD_lst _), eqv_lst_enc]
@[simp] theorem neD_lst_enc [DecidableEq α] (xs ys : List α) : neD (.lst (xs.map enc)) (.lst (ys.map enc)) = some (.bl (!decide (xs = ys))) := by rw [neD_ok (okD_lst _) (okD_lst _), eqv_lst_enc]
/-! order -/
def ltE (a b : α) : Bool := dLt (enc a) (enc b)
def leE (a b : α) : Bool := dLe (enc a) (enc b)
theorem leE_lt (a b : α) : leE a b = !ltE b a := rfl
@[simp] theorem ltA_enc (a b : α) : ltA (enc a) (enc b) = some (.bl (ltE a b)) := by
  unfold ltA ltE
  have hc : cmpD (enc a) (enc b) = true := by
    unfold cmpD
    rw [okD_enc, okD_enc]
    have h1 := Kl.alk a b
    have h2 := Kl.nn a
    simp only [enc, h1, h2]; rfl
  cases q : ltD (enc a) (enc b) with
  | none => simp only [hc, if_true]; rfl
  | some d =>
    -- both are whole numbers
    unfold enc at q ⊢
    cases ha : Kl.nk a with
    | num i =>
      cases hb : Kl.nk b with
      | num j =>
        simp only [ha, hb, nkD, ltD_int, Option.some.injEq] at q ⊢
        subst q
        simp [dLt, toPy, PySem.W.dataLt, PySem.W.keyToks, PyProof.Rows.lexLt, PyProof.Rows.itemOrd, PyProof.Rows.itemLt]
      | _ => simp [ha, hb, nkD, ltD, intD] at q
    | _ => simp [ha, nkD, ltD, intD] at q
theorem leE_total : PySem.W.TotalLe (leE (α := α)) := ⟨fun a b c h1 h2 => dLe_total.trans _ _ _ h1 h2, fun a b => dLe_total.total _ _⟩
theorem leE_anti {a b : α} (h1 : leE a b = true) (h2 : leE b a = true) : a = b := by
  have al := Kl.alk a b
  have a1 : PyProof.Rows.lexLt PyProof.Rows.itemOrd (keyT (enc b)) (keyT (enc a)) = false := by simpa [leE, dLe, dLt, PySem.W.dataLt, keyT] using h1
  have a2 : PyProof.Rows.lexLt PyProof.Rows.itemOrd (keyT (enc a)) (keyT (enc b)) = false := by simpa [leE, dLe, dLt, PySem.W.dataLt, keyT] using h2
  have eq : keyT (enc a) = keyT (enc b) := (listOrd PyProof.Rows.itemOrd).total _ _ a2 a1
  have q : PyData.eqv (toPy (enc a)) (toPy (enc b)) = true := by
    cases q : PyData.eqv (toPy (enc a)) (toPy (enc b)) with
    | true => rfl
    | false =>
      have z := (PySem.W.toks_eqv (toPy (enc a)) (toPy (enc b)) al).2 q [] [.inl 0]
      have eq2 : PySem.W.keyToks (toPy (enc a)) = PySem.W.keyToks (toPy (enc b)) := eq
      rw [eq2, PySem.W.lex_pre] at z
      have y := (listOrd PyProof.Rows.itemOrd).irrefl (PySem.W.keyToks (toPy (enc b)))
      have y : PyProof.Rows.lexLt PyProof.Rows.itemOrd (PySem.W.keyToks (toPy (enc b))) (PySem.W.keyToks (toPy (enc b))) = false := y
      rw [y] at z
      exact absurd z (by simp [PyProof.Rows.lexLt])
  have q : eqvD (enc a) (enc b) = true := q
  unfold enc at q
  rw [toPy_nk] at q
  exact Kl.inj a b (of_decide_eq_true q)
/-- sorted -/
def srtE (xs : List α) : List α := isort leE xs
theorem insO_map (x : α) (xs : List α) : insO dLe (enc x) (xs.map enc) = (insO leE x xs).map enc := by
  induction xs with
  | nil => rfl
  | cons y ys ih =>
    simp only [List.map_cons, insO]
    show (if dLe (enc x) (enc y) = true then _ else _) = List.map enc (if dLe (enc x) (enc y) = true then _ else _)
    split
    · rfl
    · rw [ih]; rfl
theorem srtD_enc (xs : List α) : srtD (xs.map enc) = (srtE xs).map enc := by
  induction xs with
  | nil => rfl
  | cons y ys ih =>
    show insO dLe (enc y) (isort dLe (ys.map enc)) = _
    have ih : isort dLe (ys.map enc) = (isort leE ys).map enc := ih
    rw [ih, insO_map]; rfl
theorem srtE_perm (xs : List α) : (srtE xs).Perm xs := by
  unfold srtE
  rw [isort_eq leE_total]
  exact List.mergeSort_perm _ _
theorem srtE_sorted (xs : List α) : (srtE xs).Pairwise fun a b => leE a b = true := isort_pw leE_total xs
theorem srtE_id {xs : List α} (h : xs.Pairwise fun a b => leE a b = true) : srtE xs = xs :=
  List.Perm.eq_of_pairwise (le := fun a b => leE a b = true) (fun x y _ _ h1 h2 => leE_anti h1 h2) (srtE_sorted xs) h (srtE_perm xs)
theorem mem_srtE {x : α} {xs : List α} : x ∈ srtE xs ↔ x ∈ xs := (srtE_perm xs).mem_iff
theorem alk_enc (a b : α) : PySem.W.alike (toPy (enc a)) (toPy (enc b)) = true := Kl.alk a b
theorem tup_all (xs : List α) : ((xs.map enc).all isTup || (xs.map enc).all notTup) = true := by
  rw [Bool.or_eq_true]
  rcases Kl.tn (α := α) with h | h
  · left
    rw [List.all_map, List.all_eq_true]
    exact fun a _ => h a
  · right
    rw [List.all_map, List.all_eq_true]
    exact fun a _ => h a
theorem canSort_enc (xs : List α) : canSort (xs.map enc) = true := by
  unfold canSort
  rw [tup_all, Bool.and_true, Bool.and_eq_true]
  refine ⟨?_, ?_⟩
  · rw [List.all_map, List.all_eq_true]
    intro a _
    exact okD_enc a
  · rw [List.all_eq_true]
    intro d hd
    obtain ⟨a, _, rfl⟩ := List.mem_map.mp hd
    rw [List.all_map, List.all_eq_true]
    intro b _
    exact alk_enc a b
@[simp] theorem sortG_enc (xs : List α) : sortG [.lst (xs.map enc)] = some ((srtE xs).map enc) := by
  show (if canSort (xs.map enc) = true then some (srtD (xs.map enc)) else none).or _ = _
  rw [canSort_enc, if_pos rfl, srtD_enc]; rfl
end
/-! sets: whole numbers alone -/
class Ki (α : Type) extends Kl α where
  it : ∀ a, intK (nk a) = true
  tp : ∀ a, isTup (nkD (nk a)) = true
section
variable {α : Type} [Ki α] [DecidableEq α]
/-- without the later equal ones -/
def nubE : List α → List α → List α
  | _, [] => []
  | seen, x :: xs => if x ∈ seen then nubE seen xs else x :: nubE (x :: seen) xs
theorem mem_nubE {x : α} : ∀ {xs seen : List α}, x ∈ nubE seen xs ↔ x ∈ xs ∧ x ∉ seen
  | [], seen => by simp [nubE]
  | y :: ys, seen => by
    unfold nubE
    by_cases h : y ∈ seen
    · rw [if_pos h, mem_nubE]
      constructor
      · rintro ⟨h1, h2⟩; exact ⟨List.mem_cons_of_mem _ h1, h2⟩
      · rintro ⟨h1, h2⟩
        rcases List.mem_cons.mp h1 with rfl | h1
        · exact absurd h h2
        · exact ⟨h1, h2⟩
    · rw [if_neg h, List.mem_cons, mem_nubE]
      constructor
      · rintro (rfl | ⟨h1, h2⟩)
        · exact ⟨List.mem_cons_self, h⟩
        · exact ⟨List.mem_cons_of_mem _ h1, fun z => h2 (List.mem_cons_of_mem _ z)⟩
      · rintro ⟨h1, h2⟩
        by_cases e : x = y
        · exact .inl e
        · rcases List.mem_cons.mp h1 with rfl | h1
          · exact absurd rfl e
          · exact .inr ⟨h1, fun z => by rcases List.mem_cons.mp z with z | z; exact e z; exact h2 z⟩
theorem nubE_nodup : ∀ {xs seen : List α}, (nubE seen xs).Nodup
  | [], seen => List.nodup_nil
  | y :: ys, seen => by
    unfold nubE
    split
    · exact nubE_nodup
    · refine List.nodup_cons.mpr ⟨fun z => ?_, nubE_nodup⟩
      exact (mem_nubE.mp z).2 List.mem_cons_self
/-- sorted(set(..)) -/
def ssetE (xs : List α) : List α := srtE (nubE [] xs)
theorem mem_ssetE {x : α} {xs : List α} : x ∈ ssetE xs ↔ x ∈ xs := by
  unfold ssetE
  rw [mem_srtE, mem_nubE]
  simp
end
end DL
end
section
namespace DL
open PySem PySem.Spec L2 DLS
open PyProof.Rows hiding St
/-! ### numbers, pairs, kinds, pieces, positions -/
instance : Kl Int where
  nk := .num
  inj := fun a b h => by injection h
  ok := fun _ => rfl
  dp := 0
  dep := fun _ => Nat.le_refl _
  le := by decide
  alk := fun _ _ => rfl
  nn := fun _ => rfl
  tn := .inr fun _ => rfl
class Kz (α : Type) extends Kl α where
  iz : ∀ a, intK (nk a) = true
instance : Kz Int where
  iz := fun _ => rfl
theorem alike2 {a b c d : PyData} (h1 : PySem.W.alike a c = true) (h2 : PySem.W.alike b d = true) : PySem.W.alike (.tuple [a, b]) (.tuple [c, d]) = true := by
  simp [PySem.W.alike, PySem.W.alikeAll, h1, h2]
/-- shallow enough to stand in a pair -/
class Sh (α : Type) [Kl α] : Prop where
  sh : Kl.dp α ≤ 3
instance : Sh Int where
  sh := by decide
instance {α β : Type} [Kl α] [Kl β] [ha : Sh α] [hb : Sh β] : Kl (α × β) where
  nk := fun p => .tup [Kl.nk p.1, Kl.nk p.2]
  inj := fun a b h => by
    injection h with h
    injection h with h1 h2
    injection h2 with h2
    exact Prod.ext (Kl.inj _ _ h1) (Kl.inj _ _ h2)
  ok := fun a => by simp [okN, okNs, Kl.ok]
  dp := max (Kl.dp α) (Kl.dp β) + 1
  dep := fun a => by
    have h1 := Kl.dep a.1
    have h2 := Kl.dep a.2
    simp only [NestedKey.depth, NestedKey.depthAll]
    omega
  le := by have := ha.sh; have := hb.sh; omega
  alk := fun a b => alike2 (Kl.alk _ _) (Kl.alk _ _)
  nn := fun _ => rfl
  tn := .inl fun _ => rfl
instance {α β : Type} [Kz α] [Kz β] [Sh α] [Sh β] : Kz (α × β) where
  iz := fun a => by
    show intK (.tup [Kl.nk a.1, Kl.nk a.2]) = true
    simp [intK, intKs, Kz.iz]
instance {α β : Type} [Kz α] [Kz β] [Sh α] [Sh β] : Ki (α × β) where
  it := Kz.iz
  tp := fun _ => rfl
abbrev Cell := Int × Int
abbrev Move := Cell × Cell
instance : Sh Cell where
  sh := by decide
instance : Sh Move where
  sh := by decide
structure Kd where
  i : Fin 26
  deriving DecidableEq
def kdS (k : Kd) : Str := ⟨#[97 + k.i.val]⟩
instance : Kl Kd where
  nk := fun k => .text (kdS k)
  inj := fun a b h => by
    obtain ⟨a, ha⟩ := a
    obtain ⟨b, hb⟩ := b
    simp [kdS] at h
    congr
  ok := fun k => by
    obtain ⟨⟨k, hk⟩⟩ := k
    simp [okN, PyData.strOk, kdS]
    omega
  dp := 0
  dep := fun _ => Nat.le_refl _
  le := by decide
  alk := fun _ _ => rfl
  nn := fun _ => rfl
  tn := .inr fun _ => rfl
structure Piece where
  cell : Cell
  side : Int
  kd : Kd
  deriving DecidableEq
theorem alike3 {a b c d e f : PyData} (h1 : PySem.W.alike a d = true) (h2 : PySem.W.alike b e = true) (h3 : PySem.W.alike c f = true) : PySem.W.alike (.tuple [a, b, c]) (.tuple [d, e, f]) = true := by
  simp [PySem.W.alike, PySem.W.alikeAll, h1, h2, h3]
instance : Kl Piece where
  nk := fun p => .tup [Kl.nk p.cell, Kl.nk p.side, Kl.nk p.kd]
  inj := fun a b h => by
    injection h with h
    injection h with h1 h
    injection h with h2 h
    injection h with h3 h
    obtain ⟨a1, a2, a3⟩ := a
    obtain ⟨b1, b2, b3⟩ := b
    have e1 : a1 = b1 := Kl.inj _ _ h1
    have e2 : a2 = b2 := Kl.inj _ _ h2
    have e3 : a3 = b3 := Kl.inj _ _ h3
    rw [e1, e2, e3]
  ok := fun a => by simp [okN, okNs, Kl.ok]
  dp := 2
  dep := fun a => by
    have h1 : (Kl.nk a.cell).depth ≤ 1 := Kl.dep a.cell
    have h2 : (Kl.nk a.side).depth ≤ 0 := Kl.dep a.side
    have h3 : (Kl.nk a.kd).depth ≤ 0 := Kl.dep a.kd
    simp only [NestedKey.depth, NestedKey.depthAll]
    omega
  le := by decide
  alk := fun a b => alike3 (Kl.alk a.cell b.cell) (Kl.alk a.side b.side) (Kl.alk a.kd b.kd)
  nn := fun _ => rfl
  tn := .inl fun _ => rfl
structure Pos where
  turn : Int
  ps : List Piece
  deriving DecidableEq
theorem nks_map {α : Type} [Kl α] (xs : List α) : nkDs (xs.map Kl.nk) = xs.map enc := by
  induction xs with
  | nil => rfl
  | cons x xs ih => rw [List.map_cons, nkDs, ih]; rfl
theorem alike_all {α : Type} [Kl α] : ∀ xs ys : List α, PySem.W.alikeAll (toPyL (nkDs (xs.map Kl.nk))) (toPyL (nkDs (ys.map Kl.nk))) = true
  | [], ys => by cases ys <;> rfl
  | x :: xs, [] => rfl
  | x :: xs, y :: ys => by
    simp only [List.map_cons, nkDs, toPyL, PySem.W.alikeAll]
    rw [Kl.alk x y, alike_all xs ys]; rfl
theorem okNs_map {α : Type} [Kl α] : ∀ xs : List α, okNs (xs.map Kl.nk) = true
  | [] => rfl
  | x :: xs => by rw [List.map_cons, okNs, Kl.ok, okNs_map xs]; rfl
theorem depNs_map {α : Type} [Kl α] : ∀ xs : List α, NestedKey.depthAll (xs.map Kl.nk) ≤ Kl.dp α
  | [] => Nat.zero_le _
  | x :: xs => by
    rw [List.map_cons, NestedKey.depthAll]
    have := Kl.dep x
    have := depNs_map xs
    omega
instance : Kl Pos where
  nk := fun p => .tup [Kl.nk p.turn, .tup (p.ps.map Kl.nk)]
  inj := fun a b h => by
    injection h with h
    injection h with h1 h
    injection h with h2 h
    injection h2 with h2
    obtain ⟨a1, a2⟩ := a
    obtain ⟨b1, b2⟩ := b
    have e1 : a1 = b1 := Kl.inj _ _ h1
    have e2 : a2 = b2 := by
      have : Function.Injective (Kl.nk (α := Piece)) := fun x y => Kl.inj x y
      exact (List.map_inj_right (fun x y => Kl.inj x y)).mp h2
    rw [e1, e2]
  ok := fun a => by simp [okN, okNs, Kl.ok, okNs_map]
  dp := 4
  dep := fun a => by
    have h1 : (Kl.nk a.turn).depth ≤ 0 := Kl.dep a.turn
    have h2 : NestedKey.depthAll (a.ps.map Kl.nk) ≤ 2 := depNs_map a.ps
    simp only [NestedKey.depth, NestedKey.depthAll]
    omega
  le := by decide
  alk := fun a b => alike2 (Kl.alk a.turn b.turn) (alike_all a.ps b.ps)
  nn := fun _ => rfl
  tn := .inl fun _ => rfl
structure Way where
  ride : Bool
  step : Cell
  n : Int
  deriving DecidableEq
def wayS (b : Bool) : Str := if b = true then "ride" else "leap"
instance : Kl Way where
  nk := fun p => .tup [.text (wayS p.ride), Kl.nk p.step, Kl.nk p.n]
  inj := fun a b h => by
    injection h with h
    injection h with h1 h
    injection h with h2 h
    injection h with h3 h
    injection h1 with h1
    obtain ⟨a1, a2, a3⟩ := a
    obtain ⟨b1, b2, b3⟩ := b
    have e1 : a1 = b1 := by
      have h1 : wayS a1 = wayS b1 := h1
      cases a1 <;> cases b1 <;> first | rfl | exact absurd h1 (by decide +kernel)
    have e2 : a2 = b2 := Kl.inj _ _ h2
    have e3 : a3 = b3 := Kl.inj _ _ h3
    rw [e1, e2, e3]
  ok := fun a => by
    have : okN (.text (wayS a.ride)) = true := by cases a.ride <;> decide +kernel
    simp [okNs, okN, Kl.ok] at this ⊢
    exact this
  dp := 2
  dep := fun a => by
    have h1 : (Kl.nk a.step).depth ≤ 1 := Kl.dep a.step
    have h2 : (Kl.nk a.n).depth ≤ 0 := Kl.dep a.n
    simp only [NestedKey.depth, NestedKey.depthAll]
    omega
  le := by decide
  alk := fun a b => alike3 rfl (Kl.alk a.step b.step) (Kl.alk a.n b.n)
  nn := fun _ => rfl
  tn := .inl fun _ => rfl
theorem enc_int (i : Int) : enc i = .int i := rfl
theorem enc_cell (c : Cell) : enc c = .tup [.int c.1, .int c.2] := rfl
theorem enc_pos (p : Pos) : enc p = .tup [.int p.turn, .tup (p.ps.map enc)] := by
  show D.tup [.int p.turn, .tup (nkDs (p.ps.map Kl.nk))] = _
  rw [nks_map]
end DL
end
section
namespace DL
open PySem PySem.Spec L2 DLS
open PyProof.Rows hiding St
/-! ### a yard -/
structure Kind where
  leaps : List Cell
  rides : List Cell
  crown : Int
  deriving DecidableEq
def encK (k : Kind) : D := .tup [.lst (k.leaps.map enc), .lst (k.rides.map enc), .int k.crown]
structure Yd where
  h : Int
  w : Int
  holes : List Cell
  stuck : Str
  g0 : List Cell
  g1 : List Cell
  kinds : List (Kd × Kind)
def kindsD (ks : List (Kd × Kind)) : D := .dic (ks.map fun p => enc p.1) (ks.map fun p => encK p.2)
def yN : List Str := ["height", "width", "holes", "stuck", "goals", "kinds"]
def encY (y : Yd) : D := .ins "Yard" yN [.int y.h, .int y.w, .lst (y.holes.map enc), .str y.stuck, .tup [.lst (y.g0.map enc), .lst (y.g1.map enc)], kindsD y.kinds]
def getF (c f : Str) : D → Option D
  | .ins c' ns ds => if c' = c then fldD f ns ds else none
  | _ => none
def isIns (c nm : Str) : D → Bool
  | .ins c' ns _ => decide (c' = c ∧ nm ∉ ns)
  | _ => false
section
variable {ρ : DL.Env}
@[simp] theorem fldM_ap' (c f : Str) (fo : M D) : fldM c f fo ρ = (match fo ρ with | .ok d ρ2 => liftM (getF c f d) ρ2 | .exc c ρ' => .exc c ρ' | .stuck => .stuck) := by
  rw [fldM_ap]
  cases e : fo ρ with
  | ok d ρ' =>
    cases d with
    | ins c' ns ds =>
      dsimp only [getF]
      by_cases h : c' = c
      · simp only [h, if_true]
      · simp only [h, if_false]; rfl
    | _ => rfl
  | _ => rfl
@[simp] theorem methD_ap' (c nm : Str) (md : List Bool) (f : Fn) (fo : M D) (fa : M (List Ag)) : methD c nm md f fo fa ρ = (match fo ρ with | .ok d ρ2 => if isIns c nm d = true then callM f (mdM md (bindM fa fun ags => pureM (.d d :: ags))) ρ2 else .stuck | .exc c ρ' => .exc c ρ' | .stuck => .stuck) := by
  rw [methD_ap]
  cases e : fo ρ with
  | ok d ρ' =>
    cases d with
    | ins c' ns ds =>
      dsimp only [isIns]
      by_cases h : c' = c ∧ nm ∉ ns
      · simp only [h, not_false_eq_true, and_self, if_true, decide_true]
      · simp only [h, if_false, decide_false]; rfl
    | _ => rfl
  | _ => rfl
end
@[simp] theorem getF_h (y : Yd) : getF "Yard" "height" (encY y) = some (.int y.h) := by with_unfolding_all rfl
@[simp] theorem getF_w (y : Yd) : getF "Yard" "width" (encY y) = some (.int y.w) := by with_unfolding_all rfl
@[simp] theorem getF_ho (y : Yd) : getF "Yard" "holes" (encY y) = some (.lst (y.holes.map enc)) := by with_unfolding_all rfl
@[simp] theorem getF_st (y : Yd) : getF "Yard" "stuck" (encY y) = some (.str y.stuck) := by with_unfolding_all rfl
@[simp] theorem getF_go (y : Yd) : getF "Yard" "goals" (encY y) = some (.tup [.lst (y.g0.map enc), .lst (y.g1.map enc)]) := by with_unfolding_all rfl
@[simp] theorem getF_ki (y : Yd) : getF "Yard" "kinds" (encY y) = some (kindsD y.kinds) := by with_unfolding_all rfl
@[simp] theorem isIns_ob (y : Yd) : isIns "Yard" "on_board" (encY y) = true := by with_unfolding_all rfl
@[simp] theorem isIns_if (y : Yd) : isIns "Yard" "is_free" (encY y) = true := by with_unfolding_all rfl
@[simp] theorem isIns_ce (y : Yd) : isIns "Yard" "cells" (encY y) = true := by with_unfolding_all rfl
@[simp] theorem cell_0 (c : Cell) : ixX (enc c) (.int 0) = some (.int c.1) := rfl
@[simp] theorem cell_1 (c : Cell) : ixX (enc c) (.int 1) = some (.int c.2) := rfl
@[simp] theorem move_0 (c : Move) : ixX (enc c) (.int 0) = some (enc c.1) := rfl
@[simp] theorem move_1 (c : Move) : ixX (enc c) (.int 1) = some (enc c.2) := rfl
@[simp] theorem piece_0 (c : Piece) : ixX (enc c) (.int 0) = some (enc c.cell) := rfl
@[simp] theorem piece_1 (c : Piece) : ixX (enc c) (.int 1) = some (.int c.side) := rfl
@[simp] theorem piece_2 (c : Piece) : ixX (enc c) (.int 2) = some (enc c.kd) := rfl
@[simp] theorem kind_0 (c : Kind) : ixX (encK c) (.int 0) = some (.lst (c.leaps.map enc)) := rfl
@[simp] theorem kind_1 (c : Kind) : ixX (encK c) (.int 1) = some (.lst (c.rides.map enc)) := rfl
@[simp] theorem kind_2 (c : Kind) : ixX (encK c) (.int 2) = some (.int c.crown) := rfl
def onBoard (y : Yd) (c : Cell) : Bool := decide (0 ≤ c.1) && decide (c.1 < y.h) && (decide (0 ≤ c.2) && decide (c.2 < y.w))
def isFree (y : Yd) (c : Cell) : Bool := onBoard y c && !decide (c ∈ y.holes)
/-- the simp set for running mirrors -/
@[simp] theorem Yard_on_board_ap (y : Yd) (c : Cell) : Mi.Yard_on_board [.d (encY y), .d (enc c)] = .ok (.bl (onBoard y c)) [] := by
  unfold Mi.Yard_on_board onBoard
  by_cases h1 : 0 ≤ c.1 <;> by_cases h2 : c.1 < y.h <;> by_cases h3 : 0 ≤ c.2 <;> by_cases h4 : c.2 < y.w <;> simp [h1, h2, h3, h4]
@[simp] theorem Yard_is_free_ap (y : Yd) (c : Cell) : Mi.Yard_is_free [.d (encY y), .d (enc c)] = .ok (.bl (isFree y c)) [] := by
  unfold Mi.Yard_is_free isFree
  cases h : onBoard y c <;> simp [h]
end DL
end
section
namespace DL
open PySem PySem.Spec L2 DLS
open PyProof.Rows hiding St
/-! ### comprehensions and loops over typed lists -/
theorem restE_wipe : ∀ (ρ : DL.Env) (vs : List Nat), plainB vs ρ = true → restE ρ (wipeE ρ vs) vs = ρ := by
  intro ρ vs hp
  refine List.ext_getElem? fun i => ?_
  rw [restE_get ρ (wipeE ρ vs) (by rw [wipeE_len]), wipeE_get]
  by_cases h : i ∈ vs
  · simp [h]
  · simp [h]
theorem compGo_typed {α β : Type} {e : α → D} {e' : β → D} {tg : TgF} {tt : M Bool} {te : M D} {vs : List Nat} {p : α → Bool} {f : α → β} {ρ : DL.Env} : ∀ (xs : List α) (acc : List D),
    (∀ x ∈ xs, ∃ ρ1 ρ2, tg (e x) ρ = some ρ1 ∧ tt ρ1 = .ok (p x) ρ2 ∧ plainB vs ρ2 = true ∧ wipeE ρ2 vs = ρ ∧ (p x = true → ∃ ρ3, te ρ2 = .ok (e' (f x)) ρ3 ∧ plainB vs ρ3 = true ∧ wipeE ρ3 vs = ρ)) → acc.length + xs.length ≤ sizeLine →
    compGo tg tt te vs acc (xs.map e) ρ = .ok (acc ++ ((xs.filter p).map f).map e') ρ
  | [], acc, _, _ => by simp [compGo]
  | x :: xs, acc, h, hz => by
    obtain ⟨ρ1, ρ2, h1, h2, h3, h4, h5⟩ := h x List.mem_cons_self
    have hz' : acc.length < sizeLine := by simp at hz; omega
    have ih := fun acc' (q : acc'.length + xs.length ≤ sizeLine) => compGo_typed xs acc' (fun y hy => h y (List.mem_cons_of_mem _ hy)) q
    cases hp : p x with
    | true =>
      obtain ⟨ρ3, h6, h7, h8⟩ := h5 hp
      have e : itemM tt te acc ρ1 = .ok (acc ++ [e' (f x)]) ρ3 := by
        unfold itemM
        rw [bindM_ap, h2, hp]
        show bindM te _ ρ2 = _
        rw [bindM_ap, h6]
        dsimp only
        rw [if_pos hz']; rfl
      rw [List.map_cons]
      unfold compGo
      simp only [h1, e, h7, if_true, h8]
      rw [ih _ (by simp at hz ⊢; omega)]
      simp [List.filter_cons, hp]
    | false =>
      have e : itemM tt te acc ρ1 = .ok acc ρ2 := by
        unfold itemM
        rw [bindM_ap, h2, hp]; rfl
      rw [List.map_cons]
      unfold compGo
      simp only [h1, e, h3, if_true, h4]
      rw [ih _ (by simp at hz ⊢; omega)]
      simp [List.filter_cons, hp]
/-- [te for tg in xs if tt] -/
theorem comp_typed {α β : Type} {e : α → D} {e' : β → D} (xs : List α) (p : α → Bool) (f : α → β) {it : M (List D)} {tg : TgF} {tt : M Bool} {te : M D} {vs : List Nat} {ρ : DL.Env} (hit : it ρ = .ok (xs.map e) ρ) (hp : plainB vs ρ = true) (hl : xs.length ≤ sizeLine)
    (h : ∀ x ∈ xs, ∃ ρ1 ρ2, tg (e x) (wipeE ρ vs) = some ρ1 ∧ tt ρ1 = .ok (p x) ρ2 ∧ plainB vs ρ2 = true ∧ wipeE ρ2 vs = wipeE ρ vs ∧ (p x = true → ∃ ρ3, te ρ2 = .ok (e' (f x)) ρ3 ∧ plainB vs ρ3 = true ∧ wipeE ρ3 vs = wipeE ρ vs)) :
    compO it tg tt te vs ρ = .ok (((xs.filter p).map f).map e') ρ := by
  rw [compO_ap, hit]
  dsimp only
  rw [if_pos hp, compGo_typed (e' := e') (p := p) (f := f) xs [] h (by simpa using hl)]
  simp [restE_wipe ρ vs hp]
theorem comp_map {α β : Type} {e : α → D} {e' : β → D} (xs : List α) (f : α → β) {it : M (List D)} {tg : TgF} {te : M D} {vs : List Nat} {ρ : DL.Env} (hit : it ρ = .ok (xs.map e) ρ) (hp : plainB vs ρ = true) (hl : xs.length ≤ sizeLine)
    (h : ∀ x ∈ xs, ∃ ρ1, tg (e x) (wipeE ρ vs) = some ρ1 ∧ plainB vs ρ1 = true ∧ wipeE ρ1 vs = wipeE ρ vs ∧ ∃ ρ3, te ρ1 = .ok (e' (f x)) ρ3 ∧ plainB vs ρ3 = true ∧ wipeE ρ3 vs = wipeE ρ vs) :
    compO it tg (pureM true) te vs ρ = .ok ((xs.map f).map e') ρ := by
  have := comp_typed (e := e) (e' := e') (tt := pureM true) (te := te) (tg := tg) xs (fun _ => true) f hit hp hl fun x hx => by
    obtain ⟨ρ1, h1, h2, h3, h4⟩ := h x hx
    exact ⟨ρ1, ρ1, h1, rfl, h2, h3, fun _ => h4⟩
  rw [this, List.filter_eq_self.mpr (fun _ _ => rfl)]
theorem collect_tl : ∀ (a b : DL.Env), (∀ s ∈ a, isOwn s = false) → collect a b = []
  | [], b, _ => by cases b <;> rfl
  | s :: a, [], h => by cases s <;> rfl
  | s :: a, t :: b, h => by
    have h0 := h s List.mem_cons_self
    have ih := collect_tl a b fun u hu => h u (List.mem_cons_of_mem _ hu)
    cases s with
    | cell c => simp [isOwn] at h0
    | _ => cases t <;> exact ih
/-! the set of a yard's kinds -/
def lookK (ks : List (Kd × Kind)) (k : Kd) : Option Kind := (ks.find? fun p => decide (p.1 = k)).map (·.2)
theorem isK_kd (k : Kd) : isK (enc k) = true := rfl
theorem allK_kd (ks : List (Kd × Kind)) : (ks.map fun p => enc p.1).all isK = true := by
  rw [List.all_map, List.all_eq_true]
  exact fun p _ => isK_kd p.1
theorem sameK_kd (a b : Kd) : sameK (enc a) (enc b) = decide (a = b) := by
  show decide (kdS a = kdS b) = _
  by_cases h : a = b
  · subst h; simp
  · have : ¬ kdS a = kdS b := fun z => h (Kl.inj a b (by show NestedKey.text _ = NestedKey.text _; rw [z]))
    simp [h, this]
theorem dicGet_kd (ks : List (Kd × Kind)) (k : Kd) : dicGet (enc k) (ks.map fun p => enc p.1) (ks.map fun p => encK p.2) = (lookK ks k).map encK := by
  induction ks with
  | nil => rfl
  | cons p l ih =>
    simp only [List.map_cons, dicGet, sameK_kd, lookK, List.find?_cons]
    by_cases h : p.1 = k
    · simp [h]
    · simp only [h, decide_false]
      exact ih
@[simp] theorem inX_kd (ks : List (Kd × Kind)) (k : Kd) : inX (enc k) (kindsD ks) = some (.bl (lookK ks k).isSome) := by
  have e : inD (enc k) (kindsD ks) = some (.bl (lookK ks k).isSome) := by
    show (if (isK (enc k) && (ks.map fun p => enc p.1).all isK) = true then some (D.bl (dicGet (enc k) (ks.map fun p => enc p.1) (ks.map fun p => encK p.2)).isSome) else none) = _
    rw [allK_kd, isK_kd, dicGet_kd]
    simp
  show (inD _ _).or _ = _
  rw [e]; rfl
@[simp] theorem in01 (s : Int) : inX (.int s) (.tup [.int 0, .int 1]) = some (.bl (decide (s = 0 ∨ s = 1))) := by
  have := inX_tup (α := Int) s [0, 1]
  simpa [enc_int] using this
@[simp] theorem nin01 (s : Int) : ninX (.int s) (.tup [.int 0, .int 1]) = some (.bl (!decide (s = 0 ∨ s = 1))) := by
  have := ninX_tup (α := Int) s [0, 1]
  simpa [enc_int] using this
end DL
namespace DL
open PySem PySem.Spec L2 DLS
open PyProof.Rows hiding St
/-! ### running a body step by step -/
theorem seq_nx {a b : MS} {ρ ρ' : DL.Env} (h : a ρ = .ok .nx ρ') : seqM a b ρ = b ρ' := by rw [seqM_ap, h]
theorem seq_ret {a b : MS} {ρ ρ' : DL.Env} {d : D} (h : a ρ = .ok (.ret d) ρ') : seqM a b ρ = .ok (.ret d) ρ' := by rw [seqM_ap, h]
theorem seq_exc {a b : MS} {ρ ρ' : DL.Env} {c : Str} (h : a ρ = .exc c ρ') : seqM a b ρ = .exc c ρ' := by rw [seqM_ap, h]
theorem if_t {c : M Bool} {a b : MS} {ρ ρ' : DL.Env} (h : c ρ = .ok true ρ') : ifM c a b ρ = a ρ' := by rw [ifM_ap, h]
theorem if_f {c : M Bool} {a b : MS} {ρ ρ' : DL.Env} (h : c ρ = .ok false ρ') : ifM c a b ρ = b ρ' := by rw [ifM_ap, h]
/-- a test that is not so, with nothing else -/
theorem if_no {c : M Bool} {a : MS} {ρ ρ' : DL.Env} (h : c ρ = .ok false ρ') : ifM c a skipM ρ = .ok .nx ρ' := by rw [ifM_ap, h]; rfl
theorem if_ret {c : M Bool} {b : MS} {f : M D} {ρ ρ' ρ'' : DL.Env} {d : D} (h : c ρ = .ok true ρ') (h2 : f ρ' = .ok d ρ'') : ifM c (retM f) b ρ = .ok (.ret d) ρ'' := by rw [ifM_ap, h]; simp [h2]
theorem ret_ok {f : M D} {ρ ρ' : DL.Env} {d : D} (h : f ρ = .ok d ρ') : retM f ρ = .ok (.ret d) ρ' := by rw [retM_ap, h]
theorem fn_run {rm : Bool} {n : Nat} {body : MS} {args ρ0 ρ' : DL.Env} {d : D} (h0 : args ++ List.replicate (n - args.length) .no = ρ0) (ha : (args.all fun s => !isOwn s) = true) (h : body ρ0 = .ok (.ret d) ρ') : fnM rm n body args = .ok d [] := by
  rw [fnM_ap, h0, h]
  dsimp only
  rw [collect_tl args ρ' fun s hs => by have := List.all_eq_true.mp ha s hs; simpa using this]
theorem fn_exc {rm : Bool} {n : Nat} {body : MS} {args ρ0 ρ' : DL.Env} {c : Str} (h0 : args ++ List.replicate (n - args.length) .no = ρ0) (ha : (args.all fun s => !isOwn s) = true) (h : body ρ0 = .exc c ρ') : fnM rm n body args = .exc c [] := by
  rw [fnM_ap, h0, h]
  dsimp only
  rw [collect_tl args ρ' fun s hs => by have := List.all_eq_true.mp ha s hs; simpa using this]
end DL
end
section
namespace DL
open PySem PySem.Spec L2 DLS
open PyProof.Rows hiding St
/-! ### positions -/
def sides01 (s : Int) : Bool := decide (s = 0 ∨ s = 1)
def isPiece (y : Yd) (p : Piece) : Bool := isFree y p.cell && (sides01 p.side && (lookK y.kinds p.kd).isSome)
@[simp] theorem tgU_piece (t : TgsF) (p : Piece) (ρ : DL.Env) : tgU 3 t (enc p) ρ = t [enc p.cell, .int p.side, enc p.kd] ρ := rfl
@[simp] theorem tgU_pos (t : TgsF) (p : Pos) (ρ : DL.Env) : tgU 2 t (enc p) ρ = t [.int p.turn, .tup (p.ps.map enc)] ρ := by rw [enc_pos]; rfl
@[simp] theorem tgU_cell (t : TgsF) (c : Cell) (ρ : DL.Env) : tgU 2 t (enc c) ρ = t [.int c.1, .int c.2] ρ := rfl
@[simp] theorem tgU_pair {α β : Type} [Kl α] [Kl β] [Sh α] [Sh β] (t : TgsF) (c : α × β) (ρ : DL.Env) : tgU 2 t (enc c) ρ = t [enc c.1, enc c.2] ρ := rfl
@[simp] theorem tgU_kind (t : TgsF) (k : Kind) (ρ : DL.Env) : tgU 3 t (encK k) ρ = t [.lst (k.leaps.map enc), .lst (k.rides.map enc), .int k.crown] ρ := rfl
@[simp] theorem is_piece_ap (y : Yd) (p : Piece) : Mi.is_piece [.d (encY y), .d (enc p)] = .ok (.bl (isPiece y p)) [] := by
  unfold Mi.is_piece isPiece sides01
  cases h : isFree y p.cell <;> by_cases h2 : p.side = 0 ∨ p.side = 1 <;> simp [h, h2]
def crownOf (y : Yd) (k : Kd) : Int := ((lookK y.kinds k).map (·.crown)).getD 0
def crowns (y : Yd) (ps : List Piece) (side : Int) : List Cell := (ps.filter fun p => decide (p.side = side) && decide (crownOf y p.kd = 1)).map (·.cell)
/-- rising -/
def risingB {α : Type} (lt : α → α → Bool) : List α → Bool
  | a :: b :: l => lt a b && risingB lt (b :: l)
  | _ => true
theorem inRg_nat (n : Nat) (h : n ≤ 1000000) : inRg (n : Int) = true := by
  unfold inRg
  rw [Bool.and_eq_true, decide_eq_true_eq, decide_eq_true_eq]
  constructor <;> omega
theorem lst_at {α : Type} (e : α → D) (xs : List α) (k : Nat) (a : α) (h : xs[k]? = some a) : ixX (.lst (xs.map e)) (.int k) = some (e a) :=
  ixX_lst _ _ _ (by rw [atI_nat, List.getElem?_map, h]; rfl)
end DL
end
section
namespace DL
open PySem PySem.Spec L2 DLS
open PyProof.Rows hiding St
def ltC (a b : Piece) : Bool := ltE a.cell b.cell
def isPos (y : Yd) (p : Pos) : Bool := sides01 p.turn && (decide (1 ≤ p.ps.length) && decide (p.ps.length ≤ 10)) && (p.ps.all (isPiece y) && (risingB ltC p.ps && decide (0 < (crowns y p.ps 0 ++ crowns y p.ps 1).length)))
theorem allD_bls (bs : List Bool) : allD [.lst (bs.map D.bl)] = some (.bl (bs.all id)) := by
  show (boolsOf _).map _ = _
  rw [boolsOf_map]; rfl
theorem all_id {α : Type} (f : α → Bool) (xs : List α) : (xs.map f).all id = xs.all f := by rw [List.all_map]; rfl
@[simp] theorem addD_lst {α : Type} (e : α → D) (xs ys : List α) (h : xs.length + ys.length ≤ 1000000) : addD (.lst (xs.map e)) (.lst (ys.map e)) = some (.lst ((xs ++ ys).map e)) := by
  show (if (xs.map e).length + (ys.map e).length ≤ sizeLine then _ else none) = _
  rw [if_pos (by rw [sizeLine_eq]; simp; omega), List.map_append]
end DL
end
section
namespace DL
open PySem PySem.Spec L2 DLS
open PyProof.Rows hiding St
/-! ### where a piece goes -/
def encSK (p : Int × Kd) : D := .tup [.int p.1, enc p.2]
def pieceAt (ps : List Piece) (c : Cell) : Option (Int × Kd) := ps.findSome? fun p => if p.cell = c then some (p.side, p.kd) else none
def optD {α : Type} (e : α → D) : Option α → D
  | none => .non
  | some a => e a
@[simp] theorem isNb_opt (o : Option (Int × Kd)) : isNb (optD encSK o) = o.isNone := by cases o <;> rfl
def mayEnd (y : Yd) (ps : List Piece) (side : Int) (c : Cell) : Bool := isFree y c && (match pieceAt ps c with | none => true | some z => !decide (z.1 = side))
def turnS (s : Cell) (side : Int) : Cell := if side = 0 then s else (0 - s.1, 0 - s.2)
@[simp] theorem turned_step_ap (s : Cell) (side : Int) : Mi.turned_step [.d (enc s), .d (.int side)] = .ok (enc (turnS s side)) [] := by
  unfold Mi.turned_step turnS
  by_cases h : side = 0
  · simp [h]
  · simp [h]; rfl
def goneC (c s : Cell) (k : Int) : Cell := (c.1 + k * s.1, c.2 + k * s.2)
@[simp] theorem gone_ap (c s : Cell) (k : Int) (h : -(2 ^ 64) < k ∧ k < 2 ^ 64) : Mi.gone [.d (enc c), .d (enc s), .d (.int k)] = .ok (enc (goneC c s k)) [] := by
  unfold Mi.gone goneC
  simp [mulD_l _ _ h.1 h.2]
  rfl
/-- how often a piece may go -/
def rideGo (y : Yd) (ps : List Piece) (side : Int) (c s : Cell) : Nat → Int → List Int
  | 0, _ => []
  | n + 1, k => if mayEnd y ps side (goneC c s k) = true then k :: (if (pieceAt ps (goneC c s k)).isSome = true then [] else rideGo y ps side c s n (k + 1)) else []
def rides (y : Yd) (ps : List Piece) (side : Int) (c s : Cell) : List Int := rideGo y ps side c s 8 1
/-- a board of five, a step that is one -/
def YOk (y : Yd) : Prop := y.h ≤ 5 ∧ y.w ≤ 5
theorem free_of {y : Yd} {c : Cell} (h : isFree y c = true) : (0 ≤ c.1 ∧ c.1 < y.h) ∧ 0 ≤ c.2 ∧ c.2 < y.w := by
  unfold isFree onBoard at h
  simp only [Bool.and_eq_true, decide_eq_true_eq] at h
  exact h.1
end DL
end
section
namespace DL
open PySem PySem.Spec L2 DLS
open PyProof.Rows hiding St
theorem flat_len {α β : Type} (g : α → List β) (n : Nat) : ∀ xs : List α, (∀ x ∈ xs, (g x).length ≤ n) → (xs.flatMap g).length ≤ xs.length * n
  | [], _ => by simp
  | x :: xs, h => by
    have h1 := h x List.mem_cons_self
    have h2 := flat_len g n xs fun y hy => h y (List.mem_cons_of_mem _ hy)
    rw [List.flatMap_cons, List.length_append, List.length_cons, Nat.succ_mul]
    omega
instance : Sh Way where
  sh := by decide
instance : Sh Piece where
  sh := by decide
instance : Sh (Cell × Way) where
  sh := by decide
structure YGood (y : Yd) : Prop where
  hw : YOk y
  nz : ∀ k K, lookK y.kinds k = some K → ∀ s ∈ K.rides, s ≠ (0, 0)
  ll : ∀ k K, lookK y.kinds k = some K → K.leaps.length ≤ 100 ∧ K.rides.length ≤ 100
  lh : y.holes.length ≤ 100
  lg : y.g0.length ≤ 100 ∧ y.g1.length ≤ 100
  sk : y.stuck = "lost" ∨ y.stuck = "drawn"
def leapW (y : Yd) (ps : List Piece) (side : Int) (c s : Cell) : List (Cell × Way) := if mayEnd y ps side (goneC c (turnS s side) 1) = true then [(goneC c (turnS s side) 1, ⟨false, turnS s side, 1⟩)] else []
def rideW (y : Yd) (ps : List Piece) (side : Int) (c s : Cell) : List (Cell × Way) := (rides y ps side c (turnS s side)).map fun k => (goneC c (turnS s side) k, ⟨true, turnS s side, k⟩)
def waysK (y : Yd) (ps : List Piece) (side : Int) (c : Cell) (K : Kind) : List (Cell × Way) := K.leaps.flatMap (leapW y ps side c) ++ K.rides.flatMap (rideW y ps side c)
end DL
end
section
namespace DL
open PySem PySem.Spec L2 DLS
open PyProof.Rows hiding St
instance : Sh Move where
  sh := by decide
def waysOf (y : Yd) (ps : List Piece) (p : Piece) : List (Cell × Way) := match lookK y.kinds p.kd with
  | some K => waysK y ps p.side p.cell K
  | none => []
def pieceW (y : Yd) (p : Pos) (q : Piece) : List (Move × Way) := if q.side = p.turn then (waysOf y p.ps q).map fun w => ((q.cell, w.1), w.2) else []
def allWays (y : Yd) (p : Pos) : List (Move × Way) := p.ps.flatMap (pieceW y p)
structure POk (y : Yd) (p : Pos) : Prop where
  pc : p.ps.all (isPiece y) = true
  tn : p.turn = 0 ∨ p.turn = 1
  ln : p.ps.length ≤ 10
theorem POk.of {y : Yd} {p : Pos} (h : isPos y p = true) : POk y p := by
  unfold isPos sides01 at h
  simp only [Bool.and_eq_true, decide_eq_true_eq] at h
  exact ⟨h.2.1, h.1.1, h.1.2.2⟩
def goalsOf (y : Yd) (s : Int) : List Cell := if s = 0 then y.g0 else y.g1
def onGoal (y : Yd) (ps : List Piece) (s : Int) : Bool := (crowns y ps s).any fun c => decide (c ∈ goalsOf y s)
end DL
end
section
namespace DL
open PySem PySem.Spec L2 DLS
open PyProof.Rows hiding St
/-! ### verdicts -/
inductive Vd where
  | non | won (s : Int) | drawn
  deriving DecidableEq
def stuckV (y : Yd) (p : Pos) : Vd := if y.stuck = "lost" then .won (1 - p.turn) else .drawn
def verdict (y : Yd) (p : Pos) : Vd :=
  if crowns y p.ps 0 = [] then .won 1 else if crowns y p.ps 1 = [] then .won 0
  else if onGoal y p.ps (1 - p.turn) = true then .won (1 - p.turn) else if onGoal y p.ps p.turn = true then .won p.turn
  else if allWays y p = [] then stuckV y p else .non
/-! ### moves, and the position behind one -/
def movesOf (y : Yd) (p : Pos) : List Move := if verdict y p = .non then ssetE ((allWays y p).map (·.1)) else []
/-- fewer than 77 different moves -/
def Few64 (y : Yd) (p : Pos) : Prop := (nubE [] ((allWays y p).map (·.1))).length < 307
def goPiece (m : Move) (q : Piece) : List Piece := if q.cell = m.1 then [⟨m.2, q.side, q.kd⟩] else if q.cell = m.2 then [] else [q]
def afterOf (p : Pos) (m : Move) : Pos := ⟨1 - p.turn, srtE (p.ps.flatMap (goPiece m))⟩
theorem goPiece_len (m : Move) (q : Piece) : (goPiece m q).length ≤ 1 := by
  unfold goPiece
  split
  · simp
  · split <;> simp
end DL
end
section
namespace DL
open PySem PySem.Spec L2 DLS
open PyProof.Rows hiding St
/-! ### what Yard looks at -/
def absI (i : Int) : Int := if i < 0 then -i else i
def isStep (c : Cell) : Bool := !decide (c = ((0, 0) : Cell)) && (decide (absI c.1 ≤ 4) && decide (absI c.2 ≤ 4))
def stepsAll (K : Kind) : Bool := (K.leaps ++ K.rides).all isStep
def okKind (K : Kind) : Bool := sides01 K.crown && (risingB ltE K.leaps && (risingB ltE K.rides && stepsAll K))
end DL
end
section
namespace DL
open PySem PySem.Spec L2 DLS
open PyProof.Rows hiding St
/-! ### Yard is made -/
@[simp] theorem noIns_enc {α : Type} [Kl α] (a : α) : noIns (enc a) = true := nk_noIns _
@[simp] theorem noInsL_map {α : Type} (e : α → D) (h : ∀ a, noIns (e a) = true) : ∀ xs : List α, noInsL (xs.map e) = true
  | [] => rfl
  | a :: xs => by rw [List.map_cons, noInsL, h, noInsL_map e h xs]; rfl
@[simp] theorem noInsL_enc {α : Type} [Kl α] (xs : List α) : noInsL (xs.map enc) = true := noInsL_map _ noIns_enc xs
@[simp] theorem noIns_lst (xs : List D) : noIns (.lst xs) = noInsL xs := rfl
@[simp] theorem noIns_tup (xs : List D) : noIns (.tup xs) = noInsL xs := rfl
@[simp] theorem noIns_int (i : Int) : noIns (.int i) = true := rfl
@[simp] theorem noIns_str (i : Str) : noIns (.str i) = true := rfl
@[simp] theorem noInsL_nil : noInsL [] = true := rfl
@[simp] theorem noInsL_cons (d : D) (ds : List D) : noInsL (d :: ds) = (noIns d && noInsL ds) := rfl
@[simp] theorem noIns_K (k : Kind) : noIns (encK k) = true := by simp [encK]
@[simp] theorem noIns_kD (ks : List (Kd × Kind)) : noIns (kindsD ks) = true := noInsL_map (fun p : Kd × Kind => encK p.2) (fun p => noIns_K p.2) ks
structure YIn (h w : Int) (holes : List Cell) (ks : List (Kd × Kind)) (g0 g1 : List Cell) (stuck : Str) : Prop where
  h1 : 1 ≤ h
  h5 : h ≤ 5
  w1 : 1 ≤ w
  w5 : w ≤ 5
  st : stuck = "lost" ∨ stuck = "drawn"
  rh : risingB ltE holes = true
  ob : ∀ c ∈ holes, (decide (0 ≤ c.1) && decide (c.1 < h) && (decide (0 ≤ c.2) && decide (c.2 < w))) = true
  k1 : 1 ≤ ks.length
  k6 : ks.length ≤ 6
  nd : (ks.map (·.1)).Nodup
  kk : ∀ p ∈ ks, okKind p.2 = true ∧ p.2.leaps.length ≤ 100 ∧ p.2.rides.length ≤ 100
  g : ∀ g, g = g0 ∨ g = g1 → risingB ltE g = true ∧ g.length ≤ 100 ∧ ∀ c ∈ g, ((decide (0 ≤ c.1) && decide (c.1 < h) && (decide (0 ≤ c.2) && decide (c.2 < w))) && !decide (c ∈ holes)) = true
  lh : holes.length ≤ 100
section
variable {h w : Int} {holes : List Cell} {ks : List (Kd × Kind)} {g0 g1 : List Cell} {stuck : Str}
def y4 (h w : Int) (holes : List Cell) (stuck : Str) : D := .ins "Yard" ["height", "width", "holes", "stuck"] [.int h, .int w, .lst (holes.map enc), .str stuck]
theorem lookK_mem {ks : List (Kd × Kind)} (nd : (ks.map (·.1)).Nodup) {p : Kd × Kind} (hp : p ∈ ks) : lookK ks p.1 = some p.2 := by
  unfold lookK
  induction ks with
  | nil => cases hp
  | cons q ks ih =>
    rw [List.map_cons, List.nodup_cons] at nd
    rw [List.find?_cons]
    by_cases h : q.1 = p.1
    · simp only [h, decide_true]
      rcases List.mem_cons.mp hp with rfl | hp
      · rfl
      · exact absurd (List.mem_map.mpr ⟨p, hp, h.symm⟩) nd.1
    · simp only [h, decide_false]
      rcases List.mem_cons.mp hp with rfl | hp
      · exact absurd rfl h
      · exact ih nd.2 hp
def getK (ks : List (Kd × Kind)) (k : Kd) : Kind := (lookK ks k).getD ⟨[], [], 0⟩
end
end DL
end
section
namespace DL
open PySem PySem.Spec L2 DLS
open PyProof.Rows hiding St
section
variable {h w : Int} {holes : List Cell} {ks : List (Kd × Kind)} {g0 g1 : List Cell} {stuck : Str}
def ordK (ks : List (Kd × Kind)) : List (Kd × Kind) := (srtE (ks.map (·.1))).map fun k => (k, getK ks k)
def mkY (h w : Int) (holes : List Cell) (ks : List (Kd × Kind)) (g0 g1 : List Cell) (stuck : Str) : Yd := ⟨h, w, holes, stuck, g0, g1, ordK ks⟩
end
end DL
end
section
namespace DL
open PySem PySem.Spec L2 DLS
open PyProof.Rows hiding St
theorem ints_at (ns : List Int) (k : Nat) (h : k < ns.length) : ixX (.lst (ns.map .int)) (.int k) = some (.int (ns.getD k 0)) := by
  refine lst_at D.int ns k _ ?_
  rw [List.getD_eq_getElem?_getD, List.getElem?_eq_getElem h]; rfl
theorem forM_rng' {tg : TgF} {body : MS} (R : Nat → DL.Env → Prop) (N : Nat) (step : ∀ k ρ, k < N → R k ρ → ∃ ρ1 ρ2, tg (.int k) ρ = some ρ1 ∧ body ρ1 = .ok .nx ρ2 ∧ R (k + 1) ρ2) : ∀ (n a : Nat) (ρ : DL.Env), a + n ≤ N → R a ρ →
    ∃ ρ', forM tg body ((List.range' a n).map fun (i : Nat) => D.int (0 + (i : Int))) ρ = .ok .nx ρ' ∧ R (a + n) ρ'
  | 0, a, ρ, _, r => ⟨ρ, rfl, r⟩
  | n + 1, a, ρ, h, r => by
    obtain ⟨ρ1, ρ2, h1, h2, h3⟩ := step a ρ (by omega) r
    obtain ⟨ρ', i1, i2⟩ := forM_rng' R N step n (a + 1) ρ2 (by omega) h3
    refine ⟨ρ', ?_, by rw [show a + (n + 1) = a + 1 + n by omega]; exact i2⟩
    rw [List.range'_succ, List.map_cons]
    unfold forM
    rw [Int.zero_add]
    simp only [h1, h2]
    exact i1
theorem forM_rng {tg : TgF} {body : MS} (R : Nat → DL.Env → Prop) (n : Nat) (ρ : DL.Env) (r : R 0 ρ) (step : ∀ k ρ, k < n → R k ρ → ∃ ρ1 ρ2, tg (.int k) ρ = some ρ1 ∧ body ρ1 = .ok .nx ρ2 ∧ R (k + 1) ρ2) :
    ∃ ρ', forM tg body ((List.range n).map fun (i : Nat) => D.int (0 + (i : Int))) ρ = .ok .nx ρ' ∧ R n ρ' := by
  have := forM_rng' R n step n 0 ρ (by omega) r
  rw [List.range_eq_range']
  rwa [Nat.zero_add] at this
theorem rg1_nat (n : Nat) (h : n ≤ 1000000) : rg1 [.int n] = some ((List.range n).map fun (i : Nat) => D.int (0 + (i : Int))) := by
  have h2 := inRg_nat n h
  have e : ((n : Int)).toNat = n := by omega
  simp only [rg1, h2, if_true, e]
/-! ### rising lists -/
theorem risingB_of {α : Type} {lt : α → α → Bool} : ∀ {xs : List α}, xs.Pairwise (fun a b => lt a b = true) → risingB lt xs = true
  | [], _ => rfl
  | [a], _ => rfl
  | a :: b :: l, h => by
    rw [List.pairwise_cons] at h
    simp only [risingB, h.1 b (by simp), Bool.true_and]
    exact risingB_of h.2
section
variable {α : Type} [Kl α]
theorem ltE_of {a b : α} (h : leE a b = true) (n : a ≠ b) : ltE a b = true := by
  cases c : ltE a b with
  | true => rfl
  | false =>
    have : leE b a = true := by rw [leE_lt, c]; rfl
    exact absurd (leE_anti h this) n
theorem lt_le {a b : α} (h : ltE a b = true) : leE a b = true := by
  rcases leE_total.total a b with h1 | h1
  · exact h1
  · rw [leE_lt, h] at h1; cases h1
theorem lt_ne {a b : α} (h : ltE a b = true) : a ≠ b := by
  rintro rfl
  have := leE_total.total a a
  rw [leE_lt, h] at this
  rcases this with h | h <;> cases h
theorem lt_tr {a b c : α} (h1 : ltE a b = true) (h2 : ltE b c = true) : ltE a c = true := by
  refine ltE_of (leE_total.trans _ _ _ (lt_le h1) (lt_le h2)) ?_
  rintro rfl
  exact lt_ne h1 (leE_anti (lt_le h1) (lt_le h2))
theorem rising_pwE : ∀ {xs : List α}, risingB ltE xs = true → xs.Pairwise fun a b => ltE a b = true
  | [], _ => .nil
  | [a], _ => by simp
  | a :: b :: l, h => by
    simp only [risingB, Bool.and_eq_true] at h
    have ih := rising_pwE h.2
    refine List.pairwise_cons.mpr ⟨fun c hc => ?_, ih⟩
    rcases List.mem_cons.mp hc with rfl | hc
    · exact h.1
    · exact lt_tr h.1 ((List.pairwise_cons.mp ih).1 c hc)
theorem rising_nodup {xs : List α} (h : risingB ltE xs = true) : xs.Nodup := (rising_pwE h).imp lt_ne
theorem pw_sub {xs ys : List α} (h : risingB ltE xs = true) (s : ys.Sublist xs) : risingB ltE ys = true := risingB_of ((rising_pwE h).sublist s)
end
theorem forM_pre' {α : Type} {e : α → D} {tg : TgF} {body : MS} (R : List α → DL.Env → Prop) (all : List α) (h : ∀ pre x post ρ, all = pre ++ x :: post → R pre ρ → ∃ ρ1 ρ2, tg (e x) ρ = some ρ1 ∧ body ρ1 = .ok .nx ρ2 ∧ R (pre ++ [x]) ρ2) : ∀ (xs pre : List α) (ρ : DL.Env), all = pre ++ xs → R pre ρ → ∃ ρ', forM tg body (xs.map e) ρ = .ok .nx ρ' ∧ R all ρ'
  | [], pre, ρ, ha, r => ⟨ρ, rfl, by rw [ha, List.append_nil]; exact r⟩
  | x :: xs, pre, ρ, ha, r => by
    obtain ⟨ρ1, ρ2, h1, h2, h3⟩ := h pre x xs ρ ha r
    obtain ⟨ρ', i1, i2⟩ := forM_pre' R all h xs (pre ++ [x]) ρ2 (by simp [ha]) h3
    refine ⟨ρ', ?_, i2⟩
    rw [List.map_cons]
    unfold forM
    simp only [h1, h2]
    exact i1
/-- for x in xs, what holds behind the first so many -/
theorem forM_pre {α : Type} {e : α → D} {tg : TgF} {body : MS} (R : List α → DL.Env → Prop) (xs : List α) (ρ : DL.Env) (r : R [] ρ) (h : ∀ pre x post ρ, xs = pre ++ x :: post → R pre ρ → ∃ ρ1 ρ2, tg (e x) ρ = some ρ1 ∧ body ρ1 = .ok .nx ρ2 ∧ R (pre ++ [x]) ρ2) : ∃ ρ', forM tg body (xs.map e) ρ = .ok .nx ρ' ∧ R xs ρ' :=
  forM_pre' R xs h xs [] ρ rfl r
theorem small_le {n : Nat} (h : n ≤ 1000) : n ≤ sizeLine := by rw [sizeLine_eq]; exact Nat.le_trans h (by decide)
def rowL (w r : Nat) : List Cell := (List.range w).map fun (c : Nat) => (((r : Int), (c : Int)) : Cell)
def boardN (h w : Nat) : List Cell := (List.range h).flatMap (rowL w)
theorem boardN_succ (h w : Nat) : boardN (h + 1) w = boardN h w ++ rowL w h := by
  unfold boardN
  rw [List.range_succ, List.flatMap_append]
  simp
theorem boardN_len (h w : Nat) : (boardN h w).length = h * w := by
  induction h with
  | zero => simp [boardN]
  | succ h ih => rw [boardN_succ, List.length_append, ih, Nat.succ_mul]; simp [rowL]
theorem mem_board {h w : Nat} {c : Cell} : c ∈ boardN h w ↔ (0 ≤ c.1 ∧ c.1 < h) ∧ (0 ≤ c.2 ∧ c.2 < w) := by
  unfold boardN rowL
  rw [List.mem_flatMap]
  constructor
  · rintro ⟨r, hr, hc⟩
    obtain ⟨d, hd, rfl⟩ := List.mem_map.mp hc
    have := List.mem_range.mp hr
    have := List.mem_range.mp hd
    dsimp only
    omega
  · rintro ⟨⟨a, b⟩, c1, d⟩
    obtain ⟨x, y⟩ := c
    dsimp only at a b c1 d
    refine ⟨x.toNat, List.mem_range.mpr (by omega), List.mem_map.mpr ⟨y.toNat, List.mem_range.mpr (by omega), ?_⟩⟩
    rw [Int.toNat_of_nonneg a, Int.toNat_of_nonneg c1]
theorem rising_board : ∀ h w : Nat, h ≤ 5 → w ≤ 5 → risingB ltE (boardN h w) = true := by
  intro h w hh hw
  have a : h = 0 ∨ h = 1 ∨ h = 2 ∨ h = 3 ∨ h = 4 ∨ h = 5 := by omega
  have b : w = 0 ∨ w = 1 ∨ w = 2 ∨ w = 3 ∨ w = 4 ∨ w = 5 := by omega
  clear hh hw
  rcases a with rfl | rfl | rfl | rfl | rfl | rfl <;> rcases b with rfl | rfl | rfl | rfl | rfl | rfl <;> kernel_rfl
theorem board_in {h w : Nat} {c : Cell} (hc : c ∈ boardN h w) : (decide (0 ≤ c.1) && decide (c.1 < (h : Int)) && (decide (0 ≤ c.2) && decide (c.2 < (w : Int)))) = true := by
  obtain ⟨⟨a, b⟩, d, e⟩ := mem_board.mp hc
  simp [a, b, d, e]
theorem board_le {h w : Nat} (hh : h ≤ 5) (hw : w ≤ 5) : (boardN h w).length ≤ 25 := by
  rw [boardN_len]; exact Nat.mul_le_mul hh hw
theorem lookK_ord {ks : List (Kd × Kind)} (nd : (ks.map (·.1)).Nodup) (k : Kd) : lookK (ordK ks) k = lookK ks k := by
  have hm : (ordK ks).map (·.1) = srtE (ks.map (·.1)) := by unfold ordK; rw [List.map_map]; exact List.map_id _
  have nd2 : ((ordK ks).map (·.1)).Nodup := by rw [hm]; exact (srtE_perm _).nodup_iff.mpr nd
  cases h : lookK ks k with
  | some K =>
    have hp : (k, K) ∈ ordK ks := by
      unfold ordK
      refine List.mem_map.mpr ⟨k, mem_srtE.mpr ?_, by simp [getK, h]⟩
      unfold lookK at h
      obtain ⟨p, hp, e⟩ := Option.map_eq_some_iff.mp h
      have h1 := List.find?_some hp
      simp at h1
      exact List.mem_map.mpr ⟨p, List.mem_of_find?_eq_some hp, h1⟩
    exact lookK_mem nd2 hp
  | none =>
    unfold lookK at h ⊢
    rw [Option.map_eq_none_iff, List.find?_eq_none] at h ⊢
    intro p hp
    unfold ordK at hp
    obtain ⟨k', hk', rfl⟩ := List.mem_map.mp hp
    obtain ⟨q, hq, rfl⟩ := List.mem_map.mp (mem_srtE.mp hk')
    have := h q hq
    simpa using this
theorem lookK_in {ks : List (Kd × Kind)} {k : Kd} {K : Kind} (h : lookK ks k = some K) : (k, K) ∈ ks := by
  unfold lookK at h
  obtain ⟨p, hp, e⟩ := Option.map_eq_some_iff.mp h
  have h1 := List.find?_some hp
  simp at h1
  have := List.mem_of_find?_eq_some hp
  obtain ⟨a, b⟩ := p
  simp at h1 e
  subst h1 e
  exact this
end DL
end
section
namespace DL
open PySem PySem.Spec L2 DLS
open PyProof.Rows hiding St
/-! ### pieces rise by their cells -/
theorem cell_lex (c d : Cell) (h : c ≠ d) (A B : List (Int ⊕ List Nat)) : PyProof.Rows.lexLt PyProof.Rows.itemOrd (keyT (enc c) ++ A) (keyT (enc d) ++ B) = PyProof.Rows.lexLt PyProof.Rows.itemOrd (keyT (enc c)) (keyT (enc d)) := by
  obtain ⟨a, b⟩ := c
  obtain ⟨a', b'⟩ := d
  have e : ∀ x y : Int, keyT (enc (((x, y) : Cell))) = [.inl 1, .inl x, .inl 1, .inl y, .inl 0] := fun x y => rfl
  rw [e, e]
  have l1 : ∀ (x y : Int) (T : List (Int ⊕ List Nat)), ([.inl 1, .inl x, .inl 1, .inl y, .inl 0] : List (Int ⊕ List Nat)) ++ T = [.inl 1] ++ (.inl x :: .inl 1 :: .inl y :: .inl 0 :: T) := fun _ _ _ => rfl
  have l2 : ∀ (x y : Int), ([.inl 1, .inl x, .inl 1, .inl y, .inl 0] : List (Int ⊕ List Nat)) = [.inl 1] ++ (.inl x :: [.inl 1, .inl y, .inl 0]) := fun _ _ => rfl
  by_cases h1 : a = a'
  · subst h1
    have h2 : b ≠ b' := fun z => h (by rw [z])
    have n : (.inl b : Int ⊕ List Nat) ≠ .inl b' := fun z => h2 (Sum.inl.inj z)
    have m1 : ∀ (y : Int) (T : List (Int ⊕ List Nat)), ([.inl 1, .inl a, .inl 1, .inl y, .inl 0] : List (Int ⊕ List Nat)) ++ T = [.inl 1, .inl a, .inl 1] ++ (.inl y :: .inl 0 :: T) := fun _ _ => rfl
    have m2 : ∀ (y : Int), ([.inl 1, .inl a, .inl 1, .inl y, .inl 0] : List (Int ⊕ List Nat)) = [.inl 1, .inl a, .inl 1] ++ (.inl y :: [.inl 0]) := fun _ => rfl
    rw [m1, m1, PySem.W.lex_pre, PySem.W.lex_atom n, m2 b, m2 b', PySem.W.lex_pre]
    exact (PySem.W.lex_atom n _ _).symm
  · have n : (.inl a : Int ⊕ List Nat) ≠ .inl a' := fun z => h1 (Sum.inl.inj z)
    rw [l1, l1, PySem.W.lex_pre, PySem.W.lex_atom n, l2 a, l2 a', PySem.W.lex_pre]
    exact (PySem.W.lex_atom n _ _).symm
theorem piece_lt (p q : Piece) (h : p.cell ≠ q.cell) : ltE p q = ltE p.cell q.cell := by
  have e : ∀ p : Piece, keyT (enc p) = [.inl 1] ++ (keyT (enc p.cell) ++ [.inl 1, .inl p.side, .inl 1, .inr (kdS p.kd).cps.toList, .inl 0]) := fun p => rfl
  show PyProof.Rows.lexLt PyProof.Rows.itemOrd (keyT (enc p)) (keyT (enc q)) = PyProof.Rows.lexLt PyProof.Rows.itemOrd (keyT (enc p.cell)) (keyT (enc q.cell))
  rw [e, e, PySem.W.lex_pre, cell_lex _ _ h]
/-- pieces on different cells, in order -/
theorem rising_pieces (P : List Piece) (nd : (P.map (·.cell)).Nodup) : risingB ltC (srtE P) = true := by
  have nd2 : ((srtE P).map (·.cell)).Nodup := ((srtE_perm P).map _).nodup_iff.mpr nd
  have so := srtE_sorted P
  generalize srtE P = L at *
  refine risingB_of ?_
  induction L with
  | nil => exact .nil
  | cons a L ih =>
    rw [List.map_cons, List.nodup_cons] at nd2
    rw [List.pairwise_cons] at so ⊢
    refine ⟨fun b hb => ?_, ih nd2.2 so.2⟩
    have ne : a.cell ≠ b.cell := fun z => nd2.1 (List.mem_map.mpr ⟨b, hb, z.symm⟩)
    have : a ≠ b := fun z => ne (by rw [z])
    show ltE a.cell b.cell = true
    rw [← piece_lt _ _ ne]
    exact ltE_of (so.1 b hb) this
theorem erase_perm {α : Type} : ∀ (l : List α) (i : Nat) (h : i < l.length), (l[i] :: l.eraseIdx i).Perm l
  | a :: l, 0, _ => .refl _
  | a :: l, i + 1, h => by
    have hl : i < l.length := by simpa using h
    have ih := erase_perm l i hl
    rw [List.eraseIdx_cons_succ, List.getElem_cons_succ]
    exact (List.Perm.swap a l[i] _).trans (ih.cons a)
theorem pos_nodup {y : Yd} {p : Pos} (h : isPos y p = true) : (p.ps.map (·.cell)).Nodup := by
  unfold isPos at h
  simp only [Bool.and_eq_true] at h
  have r := h.2.2.1
  have : risingB ltE (p.ps.map (·.cell)) = true := by
    generalize p.ps = L at r
    induction L with
    | nil => rfl
    | cons a L ih =>
      cases L with
      | nil => rfl
      | cons b L =>
        simp only [risingB, Bool.and_eq_true, List.map_cons] at r ih ⊢
        exact ⟨r.1, ih r.2⟩
  exact rising_nodup this
structure IsPos (y : Yd) (p : Pos) : Prop where
  tn : p.turn = 0 ∨ p.turn = 1
  l1 : 1 ≤ p.ps.length
  l10 : p.ps.length ≤ 10
  pc : ∀ q ∈ p.ps, isFree y q.cell = true ∧ (q.side = 0 ∨ q.side = 1) ∧ (lookK y.kinds q.kd).isSome = true
  nd : (p.ps.map (·.cell)).Nodup
  srt : srtE p.ps = p.ps
  cr : crowns y p.ps 0 ≠ [] ∨ crowns y p.ps 1 ≠ []
theorem IsPos.of {y : Yd} {p : Pos} (h : isPos y p = true) : IsPos y p := by
  have nd := pos_nodup h
  unfold isPos sides01 at h
  simp only [Bool.and_eq_true, decide_eq_true_eq, List.all_eq_true] at h
  obtain ⟨⟨h1, h2, h3⟩, h4, h5, h6⟩ := h
  refine ⟨h1, h2, h3, fun q hq => ?_, nd, ?_, ?_⟩
  · have := h4 q hq
    unfold isPiece sides01 at this
    simp only [Bool.and_eq_true, decide_eq_true_eq] at this
    exact this
  · refine srtE_id ?_
    have : ∀ L : List Piece, (L.map (·.cell)).Nodup → risingB ltC L = true → L.Pairwise fun a b => leE a b = true := by
      intro L nd r
      have rp : (L.map (·.cell)).Pairwise fun a b => ltE a b = true := by
        refine rising_pwE ?_
        clear nd
        induction L with
        | nil => rfl
        | cons a L ih =>
          cases L with
          | nil => rfl
          | cons b L =>
            simp only [risingB, Bool.and_eq_true, List.map_cons] at r ih ⊢
            exact ⟨r.1, ih r.2⟩
      rw [List.pairwise_map] at rp
      refine rp.imp fun {a b} z => lt_le ?_
      rw [piece_lt _ _ (lt_ne z)]; exact z
    exact this _ nd h5
  · rw [List.length_append] at h6
    by_cases a : crowns y p.ps 0 = []
    · right; intro b; rw [a, b] at h6; simp at h6
    · exact .inl a
theorem IsPos.mk' {y : Yd} {t : Int} {P : List Piece} (tn : t = 0 ∨ t = 1) (l1 : 1 ≤ P.length) (l10 : P.length ≤ 10) (pc : ∀ q ∈ P, isFree y q.cell = true ∧ (q.side = 0 ∨ q.side = 1) ∧ (lookK y.kinds q.kd).isSome = true) (nd : (P.map (·.cell)).Nodup) (cr : ∃ q ∈ P, (q.side = 0 ∨ q.side = 1) ∧ crownOf y q.kd = 1) : isPos y ⟨t, srtE P⟩ = true := by
  have pm := srtE_perm P
  unfold isPos sides01
  simp only [Bool.and_eq_true, decide_eq_true_eq, List.all_eq_true]
  refine ⟨⟨tn, by rw [pm.length_eq]; exact l1, by rw [pm.length_eq]; exact l10⟩, fun q hq => ?_, rising_pieces P nd, ?_⟩
  · have := pc q (mem_srtE.mp hq)
    unfold isPiece sides01
    simp only [Bool.and_eq_true, decide_eq_true_eq]
    exact this
  · obtain ⟨q, hq, hs, hc⟩ := cr
    rw [List.length_append]
    have hq := mem_srtE.mpr hq
    have : ∀ s, q.side = s → 0 < (crowns y (srtE P) s).length := fun s e => by
      refine List.length_pos_of_mem (a := q.cell) ?_
      unfold crowns
      exact List.mem_map.mpr ⟨q, List.mem_filter.mpr ⟨hq, by simp [e, hc]⟩, rfl⟩
    rcases hs with hs | hs
    · have := this 0 hs; omega
    · have := this 1 hs; omega
structure Parts where
  h : Nat
  w : Nat
  holes : List Cell
  ks : List (Kd × Kind)
  g0 : List Cell
  g1 : List Cell
  stuck : Str
def freeN (p : Parts) : List Cell := (boardN p.h p.w).filter fun c => !decide (c ∈ p.holes)
def yardOf (p : Parts) : Yd := mkY p.h p.w p.holes p.ks p.g0 p.g1 p.stuck
def kK : Kd := ⟨10, by decide⟩
def kA : Kd := ⟨0, by decide⟩
def kB : Kd := ⟨1, by decide⟩
end DL
end
section
namespace DL
open PySem PySem.Spec L2 DLS
open PyProof.Rows hiding St
/-! ### the drawing helpers -/
theorem law_cell_at_ap (ns : List Int) (k : Nat) : Mi.law_cell_at [.d (.lst (ns.map D.int)), .d (.int k)] = .ok (.int (ns.getD k 0)) [] := by
  unfold Mi.law_cell_at
  by_cases h : k < ns.length
  · have e := ints_at ns k h
    have h' : (k : Int) < (ns.length : Int) := by omega
    simp [h', e]
  · have h' : ¬ (k : Int) < (ns.length : Int) := by omega
    have e : ns.getD k 0 = 0 := by rw [List.getD_eq_getElem?_getD, List.getElem?_eq_none (by omega)]; rfl
    simp only [e]
    simp [h']
def mixL : List D := [.int 48271, .int 69621, .int 16807, .int 39373, .int 30269, .int 40014, .int 40692, .int 50021, .int 61687, .int 71993, .int 83869, .int 95561, .int 30307]
theorem mix_at (k : Int) : ∃ c : Int, ixX (.lst mixL) (.int (k % 13)) = some (.int c) ∧ 0 ≤ c ∧ c < 100000 := by
  have h1 : 0 ≤ k % 13 := Int.emod_nonneg _ (by decide)
  have h2 : k % 13 < 13 := Int.emod_lt_of_pos _ (by decide)
  generalize k % 13 = j at h1 h2
  have : j = 0 ∨ j = 1 ∨ j = 2 ∨ j = 3 ∨ j = 4 ∨ j = 5 ∨ j = 6 ∨ j = 7 ∨ j = 8 ∨ j = 9 ∨ j = 10 ∨ j = 11 ∨ j = 12 := by omega
  rcases this with rfl | rfl | rfl | rfl | rfl | rfl | rfl | rfl | rfl | rfl | rfl | rfl | rfl <;> exact ⟨_, rfl, by decide, by decide⟩
theorem law_mix_ap (c k m : Int) (hk : 0 ≤ k) (hm : 0 < m) : ∃ r : Int, 0 ≤ r ∧ r < m ∧ Mi.law_mix [.d (.int c), .d (.int k), .d (.int m)] = .ok (.int r) [] := by
  obtain ⟨q, e, q0, q1⟩ := mix_at k
  have m1 : CMul (c % 2147483647 + 12345) q := by unfold CMul; right; constructor <;> omega
  have m2 : CMul 977 k := by unfold CMul; left; decide
  have m3 : CMul 7919 (k / 13) := by unfold CMul; left; decide
  have d1 : CDiv k 13 := by unfold CDiv; decide
  have s1 : ∀ s : Int, CMul (s % 1000000007) (s % 1000000007) := fun s => by
    have h1 : 0 ≤ s % 1000000007 := Int.emod_nonneg _ (by decide)
    have h2 : s % 1000000007 < 1000000007 := Int.emod_lt_of_pos _ (by decide)
    unfold CMul; left; constructor <;> omega
  have m4 : CMul 48271 k := by unfold CMul; left; decide
  have d2 : ∀ s : Int, CDiv s 7 := fun s => by unfold CDiv; decide
  have r0 : ∀ s : Int, 0 ≤ s % m := fun s => Int.emod_nonneg _ (by omega)
  have r1 : ∀ s : Int, s % m < m := fun s => Int.emod_lt_of_pos _ hm
  have fin : ∃ S : Int, Mi.law_mix [.d (.int c), .d (.int k), .d (.int m)] = .ok (.int ((S % 1000000007 * (S % 1000000007) + 48271 * k) % 1000000007 / 7 % m)) [] := by
    refine ⟨(c % 2147483647 + 12345) * q + 977 * k + 7919 * (k / 13), ?_⟩
    unfold Mi.law_mix
    unfold mixL at e
    refine fn_run rfl rfl ((seq_nx (ρ' := [.d (.int c), .d (.int k), .d (.int m), .d (.lst mixL), .no]) (by simp [mixL])).trans ((seq_nx (ρ' := [.d (.int c), .d (.int k), .d (.int m), .d (.lst mixL), .d (.int ((c % 2147483647 + 12345) * q + 977 * k + 7919 * (k / 13)))]) (by simp [mixL, e, modD, mulD, divD, intD, m1, m2, m3, d1])).trans ((seq_nx (ρ' := [.d (.int c), .d (.int k), .d (.int m), .d (.lst mixL), .d (.int (((c % 2147483647 + 12345) * q + 977 * k + 7919 * (k / 13)) % 1000000007))]) (by simp [modD, intD])).trans (ret_ok (ρ' := [.d (.int c), .d (.int k), .d (.int m), .d (.lst mixL), .d (.int (((c % 2147483647 + 12345) * q + 977 * k + 7919 * (k / 13)) % 1000000007))]) ?_))))
    generalize (c % 2147483647 + 12345) * q + 977 * k + 7919 * (k / 13) = S
    simp [modD, mulD, divD, intD, s1, m4, d2, hm]
  obtain ⟨S, e⟩ := fin
  exact ⟨_, r0 _, r1 _, e⟩
/-- for k in range(n) -/
theorem law_list_ap (c : Int) (n : Nat) (m : Int) (hn : n ≤ 100) (hm : 0 < m) (hm2 : m < 1073741824) : ∃ row : List Int, row.length = n ∧ (∀ x ∈ row, 0 ≤ x ∧ x < m) ∧ Mi.law_list [.d (.int c), .d (.int n), .d (.int m)] = .ok (.lst (row.map D.int)) [] := by
  have pw : powD (.int 10) (.int 18) = some (.int (10 ^ 18)) := by kernel_rfl
  have hd : ∀ l : Int, CDiv l m := fun l => ⟨hm, hm2⟩
  let body : MS := (ifM (boolM (op2 geA (getM 3) (pureM (.int 0)))) (seqM (dropM (mtO 4 appD (consM (op2 modD (getM 3) (getM 2)) (pureM [])))) (setM 3 (op2 divD (getM 3) (getM 2)))) (dropM (mtO 4 appD (consM (callM Mi.law_mix (mdM [false, false, false] (consA (getM 0) (consA (getM 5) (consA (getM 2) (pureM [])))))) (pureM [])))))
  obtain ⟨ρ', h1, row, l, s, hr, hb, rfl⟩ := forM_rng (tg := tgN 5) (body := body) (fun (k : Nat) ρ => ∃ (row : List Int) (l : Int) (s : Sl), row.length = k ∧ (∀ x ∈ row, 0 ≤ x ∧ x < m) ∧ ρ = [.d (.int c), .d (.int n), .d (.int m), .d (.int l), .cell (.l (row.map D.int)), s]) n [.d (.int c), .d (.int n), .d (.int m), .d (.int (c - 10 ^ 18)), .cell (.l []), .no] ⟨[], _, _, rfl, by simp, rfl⟩ (by
    rintro k ρ hk ⟨row, l, s, hr, hb, rfl⟩
    have hz : row.length < sizeLine := by rw [sizeLine_eq]; omega
    by_cases hl : 0 ≤ l
    · have b0 : 0 ≤ l % m := Int.emod_nonneg _ (by omega)
      have b1 : l % m < m := Int.emod_lt_of_pos _ hm
      refine ⟨[.d (.int c), .d (.int n), .d (.int m), .d (.int l), .cell (.l (row.map D.int)), .d (.int k)], _, rfl, ?_, row ++ [l % m], l / m, .d (.int k), by rw [List.length_append, hr]; rfl, ?_, rfl⟩
      · refine (if_t (ρ' := [.d (.int c), .d (.int n), .d (.int m), .d (.int l), .cell (.l (row.map D.int)), .d (.int k)]) (by simp [hl])).trans ?_
        simp [appD, modD, divD, intD, hm, hd l, hz]
      · intro x hx
        rcases List.mem_append.mp hx with hx | hx
        · exact hb x hx
        · simp at hx; subst hx; exact ⟨b0, b1⟩
    · obtain ⟨r, r0, r1, e⟩ := law_mix_ap c k m (by omega) hm
      refine ⟨[.d (.int c), .d (.int n), .d (.int m), .d (.int l), .cell (.l (row.map D.int)), .d (.int k)], _, rfl, ?_, row ++ [r], l, .d (.int k), by rw [List.length_append, hr]; rfl, ?_, rfl⟩
      · refine (if_f (ρ' := [.d (.int c), .d (.int n), .d (.int m), .d (.int l), .cell (.l (row.map D.int)), .d (.int k)]) (by simp [hl])).trans ?_
        simp [appD, e, hz]
      · intro x hx
        rcases List.mem_append.mp hx with hx | hx
        · exact hb x hx
        · simp at hx; subst hx; exact ⟨r0, r1⟩)
  refine ⟨row, hr, hb, ?_⟩
  unfold Mi.law_list
  refine fn_run (ρ0 := [.d (.int c), .d (.int n), .d (.int m), .no, .no, .no]) (ρ' := [.d (.int c), .d (.int n), .d (.int m), .d (.int l), .d (.lst (row.map D.int)), s]) rfl rfl ((seq_nx (ρ' := [.d (.int c), .d (.int n), .d (.int m), .d (.int (c - 10 ^ 18)), .no, .no]) (by simp [pw, subD, intD])).trans ((seq_nx (ρ' := [.d (.int c), .d (.int n), .d (.int m), .d (.int (c - 10 ^ 18)), .cell (.l []), .no]) (by simp)).trans ((seq_nx (ρ' := [.d (.int c), .d (.int n), .d (.int m), .d (.int l), .cell (.l (row.map D.int)), s]) ?_).trans ?_)))
  · rw [forD_ap]
    have : rg1M (consM (getM 1) (pureM [])) [.d (.int c), .d (.int n), .d (.int m), .d (.int (c - 10 ^ 18)), .cell (.l []), .no] = .ok ((List.range n).map fun (i : Nat) => D.int (0 + (i : Int))) [.d (.int c), .d (.int n), .d (.int m), .d (.int (c - 10 ^ 18)), .cell (.l []), .no] := by
      have r := rg1_nat n (by omega)
      simp [r]
    rw [this]
    exact h1
  · exact ret_ok (by simp [ocD])
end DL
end
section
namespace DL
open PySem PySem.Spec L2 DLS
open PyProof.Rows hiding St
structure SOk (L : List Cell) : Prop where
  ri : risingB ltE L = true
  st : ∀ s ∈ L, s ≠ ((0, 0) : Cell) ∧ (-2 ≤ s.1 ∧ s.1 ≤ 2) ∧ (-2 ≤ s.2 ∧ s.2 ≤ 2)
theorem SOk.isStep {L : List Cell} (h : SOk L) (s : Cell) (hs : s ∈ L) : isStep s = true := by
  obtain ⟨h0, h1, h2⟩ := h.st s hs
  unfold DL.isStep absI
  have a1 : (if s.1 < 0 then -s.1 else s.1) ≤ 4 := by split <;> omega
  have a2 : (if s.2 < 0 then -s.2 else s.2) ≤ 4 := by split <;> omega
  simp [h0, a1, a2]
end DL
end
section
namespace DL
open PySem PySem.Spec L2 DLS
open PyProof.Rows hiding St
/-! ### kinds as they are drawn -/
end DL
end
section
namespace DL
open PySem PySem.Spec L2 DLS
open PyProof.Rows hiding St
/-! ### boards -/
end DL
end
section
namespace DL
open PySem PySem.Spec L2 DLS
open PyProof.Rows hiding St
/-! ### yards as they are drawn -/
structure KsOk (n : Nat) (ks : List (Kd × Kind)) : Prop where
  names : ks.map (·.1) = [kK, kA, kB].take n
  good : ∀ p ∈ ks, SOk p.2.leaps ∧ SOk p.2.rides ∧ p.2.leaps.length ≤ 8 ∧ p.2.rides.length ≤ 8 ∧ (p.2.crown = 0 ∨ p.2.crown = 1)
  king : ∀ p ∈ ks, p.1 = kK → p.2.crown = 1
section
variable {S B M s3 s4 s5 s6 s7 s8 s9 s10 s11 s12 s13 : Sl}
end
end DL
end
section
namespace DL
open PySem PySem.Spec L2 DLS
open PyProof.Rows hiding St
section
variable {S B M s3 s4 s5 s6 s7 s8 s9 s10 s11 s12 s13 : Sl}
end
end DL
end
section
namespace DL
open PySem PySem.Spec L2 DLS
open PyProof.Rows hiding St
structure POks (most : Nat) (p : Parts) : Prop where
  h1 : 1 ≤ p.h
  hm : p.h ≤ most
  w1 : 1 ≤ p.w
  wm : p.w ≤ most
  holes : p.holes.Sublist (boardN p.h p.w).tail
  ks : ∃ n, 1 ≤ n ∧ n ≤ 3 ∧ KsOk n p.ks
  g0 : p.g0.Sublist (freeN p)
  g1 : p.g1.Sublist (freeN p)
  st : p.stuck = "lost" ∨ p.stuck = "drawn"
section
variable {S B M s3 s4 s5 s6 s7 s8 s9 s10 s11 s12 s13 : Sl}
end
end DL
end
section
namespace DL
open PySem PySem.Spec L2 DLS
open PyProof.Rows hiding St
end DL
end
section
namespace DL
open PySem PySem.Spec L2 DLS
open PyProof.Rows hiding St
/-! ### the yard of the drawn parts -/
theorem POks.yin {most : Nat} {p : Parts} (H : POks most p) (m5 : most ≤ 5) : YIn p.h p.w p.holes p.ks p.g0 p.g1 p.stuck := by
  have hm := H.hm; have wm := H.wm; have h1 := H.h1; have w1 := H.w1
  have hb := rising_board p.h p.w (by omega) (by omega)
  have hl := board_le (h := p.h) (w := p.w) (by omega) (by omega)
  obtain ⟨n, n1, n3, hk⟩ := H.ks
  have kl : p.ks.length = n := by
    have := congrArg List.length hk.names
    rw [List.length_map, List.length_take] at this
    simp at this; omega
  have fs : (freeN p).Sublist (boardN p.h p.w) := List.filter_sublist
  have hs := H.holes.trans (List.tail_sublist _)
  refine ⟨by omega, by omega, by omega, by omega, H.st, pw_sub hb hs, fun c hc => board_in (hs.subset hc), by omega, by omega, ?_, ?_, ?_, by have := hs.length_le; omega⟩
  · rw [hk.names]
    exact List.Nodup.sublist (List.take_sublist _ _) (by decide)
  · intro q hq
    obtain ⟨a1, a2, a3, a4, a5⟩ := hk.good q hq
    refine ⟨?_, by omega, by omega⟩
    unfold okKind stepsAll sides01
    have : (q.2.leaps ++ q.2.rides).all isStep = true := List.all_eq_true.mpr fun s hs => by
      rcases List.mem_append.mp hs with hs | hs
      · exact a1.isStep s hs
      · exact a2.isStep s hs
    simp only [a1.ri, a2.ri, this, a5, decide_true, Bool.and_self]
  · intro g hg
    have gs : g.Sublist (freeN p) := by
      rcases hg with rfl | rfl
      · exact H.g0
      · exact H.g1
    refine ⟨pw_sub hb (gs.trans fs), by have := (gs.trans fs).length_le; omega, fun c hc => ?_⟩
    have hf := gs.subset hc
    unfold freeN at hf
    rw [List.mem_filter] at hf
    rw [board_in hf.1, hf.2]; rfl
theorem POks.good {most : Nat} {p : Parts} (H : POks most p) (m5 : most ≤ 5) : YGood (yardOf p) := by
  have Y := H.yin m5
  obtain ⟨n, n1, n3, hk⟩ := H.ks
  have lk : ∀ k K, lookK (yardOf p).kinds k = some K → (k, K) ∈ p.ks := fun k K e => by
    have e : lookK (ordK p.ks) k = some K := e
    rw [lookK_ord Y.nd] at e
    exact lookK_in e
  refine ⟨?_, ?_, ?_, Y.lh, ⟨(Y.g _ (.inl rfl)).2.1, (Y.g _ (.inr rfl)).2.1⟩, H.st⟩
  · have := Y.h5; have := Y.w5
    constructor <;> assumption
  · intro k K e s hs
    exact ((hk.good _ (lk k K e)).2.1.st s hs).1
  · intro k K e
    obtain ⟨_, _, a, b, _⟩ := hk.good _ (lk k K e)
    dsimp only at a b
    omega
end DL
end
section
/-! moves as texts -/
namespace DL
open PySem PySem.Spec L2
open PyProof.Rows hiding St
abbrev Mq := Fin 5 × Fin 5 × Fin 5 × Fin 5
def mqL (m : Mq) : List Nat := [48 + m.1.val, 46, 48 + m.2.1.val, 45, 48 + m.2.2.1.val, 46, 48 + m.2.2.2.val]
def mqD (m : Mq) : D := .tup [.tup [.int m.1.val, .int m.2.1.val], .tup [.int m.2.2.1.val, .int m.2.2.2.val]]
def chkS (r : FRes) (l : List Nat) : Bool := match r with
  | .ok (.str s) [] => s.cps.toList == l
  | _ => false
theorem chkS_ok {r : FRes} {l : List Nat} (h : chkS r l = true) : r = .ok (.str (tx l)) [] := by
  unfold chkS at h
  split at h
  · rename_i s
    have : s.cps.toList = l := eq_of_beq h
    rw [← this, tx_of]
  · cases h
def chkX (r : FRes) : Bool := match r with
  | .exc c [] => c.cps.toList == ("BadText" : Str).cps.toList
  | _ => false
theorem chkX_ok {r : FRes} (h : chkX r = true) : r = .exc "BadText" [] := by
  unfold chkX at h
  split at h
  · rename_i c
    have : c.cps.toList = ("BadText" : Str).cps.toList := eq_of_beq h
    rw [← tx_of c, this, tx_of]
  · cases h
theorem splitO_ap {l : List Nat} {c : Nat} (hc : c < 256) (hl : l.length ≤ 1000) : splitO (.str (tx l)) [.str (tx [c])] = some ((splitL c l).map fun w => D.str (tx w)) := by
  unfold splitO
  simp only
  rw [if_pos ⟨by rw [tx_len]; rfl, by rw [tx_len, sizeLine_eq]; omega⟩, split_tx l hc, List.map_map]; rfl
theorem tyM_ap' (T : String) (f : M D) (ρ : DL.Env) : tyM T f ρ = (match f ρ with
    | .ok d ρ' => if tyD T d = true then .ok d ρ' else .stuck
    | .exc c ρ' => .exc c ρ'
    | .stuck => .stuck) := by
  unfold tyM bindM
  cases f ρ with
  | ok d ρ' => show (if tyD T d = true then pureM d else stuckM) ρ' = (if tyD T d = true then .ok d ρ' else .stuck); split <;> rfl
  | exc c ρ' => rfl
  | stuck => rfl
theorem tyD_str (z : Str) : tyD "str" (.str z) = true := rfl
theorem s_dash : ("-" : Str) = tx [45] := by kernel_rfl
theorem s_blank : (" " : Str) = tx [32] := by kernel_rfl
theorem s_dot : ("." : Str) = tx [46] := by kernel_rfl
theorem s_nil : ("" : Str) = tx [] := by kernel_rfl
def ceD (a b : Fin 5) : D := .tup [.int a.val, .int b.val]
def ceL (a b : Fin 5) : List Nat := [48 + a.val, 46, 48 + b.val]
theorem cell_text_all : ∀ a b : Fin 5, chkS (Mi.cell_text [.d (ceD a b)]) (ceL a b) = true := by decide +kernel
theorem cell_text_ap (a b : Fin 5) : Mi.cell_text [.d (ceD a b)] = .ok (.str (tx (ceL a b))) [] := chkS_ok (cell_text_all a b)
theorem law_cell_text_all : ∀ a b : Fin 5, chkS (Mi.law_cell_text [.d (ceD a b)]) (ceL a b) = true := by decide +kernel
theorem law_cell_text_ap (a b : Fin 5) : Mi.law_cell_text [.d (ceD a b)] = .ok (.str (tx (ceL a b))) [] := chkS_ok (law_cell_text_all a b)
def chkC (r : FRes) (a b : Fin 5) : Bool := match r with
  | .ok (.tup [.int x, .int y]) [] => decide (x = a.val ∧ y = b.val)
  | _ => false
theorem chkC_ok {r : FRes} {a b : Fin 5} (h : chkC r a b = true) : r = .ok (ceD a b) [] := by
  unfold chkC at h
  split at h
  · obtain ⟨rfl, rfl⟩ := of_decide_eq_true h
    rfl
  · cases h
theorem cell_in_all : ∀ a b : Fin 5, chkC (Mi.cell_in [.d (.str (tx (ceL a b)))]) a b = true := by decide +kernel
theorem cell_in_ap (a b : Fin 5) : Mi.cell_in [.d (.str (tx (ceL a b)))] = .ok (ceD a b) [] := chkC_ok (cell_in_all a b)
theorem mqL_eq (a b c d : Fin 5) : mqL (a, b, c, d) = ceL a b ++ 45 :: ceL c d := rfl
theorem mqD_eq (a b c d : Fin 5) : mqD (a, b, c, d) = .tup [ceD a b, ceD c d] := rfl
theorem max_ce (a b : Fin 5) : ∃ x : Int, maxTD [ceD a b] = some (.int x) ∧ x ≤ 4 := by
  refine ⟨_, rfl, ?_⟩
  have := a.isLt; have := b.isLt
  split <;> omega
theorem max_two {x y : Int} (hx : x ≤ 4) (hy : y ≤ 4) : ∃ z : Int, max2D [.int x, .int y] = some (.int z) ∧ gtA (.int z) (.int 4) = some (.bl false) := by
  refine ⟨_, rfl, ?_⟩
  simp
  split <;> omega
theorem move_text_ap (m : Mq) : Mi.move_text [.d (mqD m)] = .ok (.str (tx (mqL m))) [] := by
  obtain ⟨a, b, c, d⟩ := m
  rw [mqL_eq, mqD_eq]
  have h1 := cell_text_ap a b
  have h2 := cell_text_ap c d
  have l1 : (ceL a b).length = 3 := rfl
  have l2 : (ceL c d).length = 3 := rfl
  generalize ceL a b = A at *
  generalize ceL c d = B at *
  unfold Mi.move_text
  refine fn_run (ρ0 := [.d (.tup [ceD a b, ceD c d])]) (ρ' := [.d (.tup [ceD a b, ceD c d])]) rfl rfl (ret_ok ?_)
  have i0 : ixX (.tup [ceD a b, ceD c d]) (.int 0) = some (ceD a b) := rfl
  have i1 : ixX (.tup [ceD a b, ceD c d]) (.int 1) = some (ceD c d) := rfl
  generalize ceD a b = DA at *
  generalize ceD c d = DB at *
  simp [h1, h2, i0, i1, s_dash, addD, tx_len, tx_app, l1, l2, sizeLine_eq]
theorem move_in_ap (m : Mq) : Mi.move_in [.d (.str (tx (mqL m)))] = .ok (mqD m) [] := by
  obtain ⟨a, b, c, d⟩ := m
  rw [mqL_eq, mqD_eq]
  have h1 := cell_in_ap a b
  have h2 := cell_in_ap c d
  have b1 : 45 ∉ ceL a b := by simp [ceL]; omega
  have b2 : 45 ∉ ceL c d := by simp [ceL]; omega
  have sp : splitO (.str (tx (ceL a b ++ 45 :: ceL c d))) [.str "-"] = some [.str (tx (ceL a b)), .str (tx (ceL c d))] := by
    rw [s_dash, splitO_ap (by decide) (by show (3 + 4 : Nat) ≤ 1000; decide)]
    have e : ceL a b ++ 45 :: ceL c d = joinL 45 [ceL a b, ceL c d] := by simp [joinL, tailP]
    rw [e, splitL_join (by simp) (by simp [b1, b2])]; rfl
  obtain ⟨x, mx, lx⟩ := max_ce a b
  obtain ⟨y, my, ly⟩ := max_ce c d
  obtain ⟨z, mz, lz⟩ := max_two lx ly
  generalize ceL a b ++ 45 :: ceL c d = L at *
  generalize ceL a b = A at *
  generalize ceL c d = B at *
  unfold Mi.move_in
  have i0 : ixX (.tup [ceD a b, ceD c d]) (.int 0) = some (ceD a b) := rfl
  have i1 : ixX (.tup [ceD a b, ceD c d]) (.int 1) = some (ceD c d) := rfl
  have j0 : ixX (.lst [.str (tx A), .str (tx B)]) (.int 0) = some (.str (tx A)) := rfl
  have j1 : ixX (.lst [.str (tx A), .str (tx B)]) (.int 1) = some (.str (tx B)) := rfl
  have ln : lenG [.lst [.str (tx A), .str (tx B)]] = some (.int 2) := rfl
  generalize ceD a b = DA at *
  generalize ceD c d = DB at *
  refine fn_run (ρ0 := [.d (.str (tx L)), .no, .no]) (ρ' := [.d (.str (tx L)), .d (.lst [.str (tx A), .str (tx B)]), .d (.tup [DA, DB])]) rfl rfl
    ((seq_nx (ρ' := [.d (.str (tx L)), .d (.lst [.str (tx A), .str (tx B)]), .no]) ?_).trans ((seq_nx (ρ' := [.d (.str (tx L)), .d (.lst [.str (tx A), .str (tx B)]), .no]) ?_).trans ((seq_nx (ρ' := [.d (.str (tx L)), .d (.lst [.str (tx A), .str (tx B)]), .d (.tup [DA, DB])]) ?_).trans ((seq_nx (ρ' := [.d (.str (tx L)), .d (.lst [.str (tx A), .str (tx B)]), .d (.tup [DA, DB])]) ?_).trans (ret_ok ?_)))))
  · simp [mtVO, tyM_ap', tyD_str, sp]
  · simp [ln]
  · simp [h1, h2, j0, j1]
  · simp [i0, i1, mx, my, mz, lz]
  · simp
theorem mqL_len (m : Mq) : (mqL m).length = 7 := rfl
/-! ### the words read -/
end DL
end
section
/-! lines as texts -/
namespace DL
open PySem PySem.Spec L2
open PyProof.Rows hiding St
def okT (l : List Nat) : Bool := l.all fun c => decide (c < 256)
theorem okT_app {a b : List Nat} (ha : okT a = true) (hb : okT b = true) : okT (a ++ b) = true := by
  unfold okT at *; rw [List.all_append, ha, hb]; rfl
theorem okT_mq (m : Mq) : okT (mqL m) = true := by
  obtain ⟨a, b, c, d⟩ := m
  simp [okT, mqL]; omega
theorem okT_tail : ∀ {ws : List (List Nat)}, (∀ w ∈ ws, okT w = true) → okT (tailP 32 ws) = true
  | [], _ => rfl
  | y :: ys, h => okT_app (a := [32]) rfl (okT_app (h y (by simp)) (okT_tail fun w hw => h w (by simp [hw])))
theorem okT_mqs (ms : List Mq) : ∀ w ∈ ms.map mqL, okT w = true := fun w hw => by
  obtain ⟨m, _, rfl⟩ := List.mem_map.mp hw
  exact okT_mq m
theorem okT_line (ms : List Mq) : okT (joinL 32 (ms.map mqL)) = true := by
  cases ms with
  | nil => rfl
  | cons m r => exact okT_app (okT_mq m) (okT_tail (okT_mqs r))
theorem okD_s {l : List Nat} (h : okT l = true) : okD (.str (tx l)) = true := by
  have : PyData.strOk (tx l) = true := by
    unfold PyData.strOk tx
    rw [Array.all_eq_true_iff_forall_mem]
    intro x hx
    have := List.all_eq_true.mp h x (by simpa using hx)
    have := of_decide_eq_true this
    exact decide_eq_true (by omega)
  simp [okD, toPy, SeqAt.shaped, PyData.canLay0, PyData.depth, this]
theorem eqD_s {a b : List Nat} (ha : okT a = true) (hb : okT b = true) : eqD (.str (tx a)) (.str (tx b)) = some (.bl (decide (tx a = tx b))) := by simp [eqD, okD_s ha, okD_s hb]
theorem neD_s {a b : List Nat} (ha : okT a = true) (hb : okT b = true) : neD (.str (tx a)) (.str (tx b)) = some (.bl (!decide (tx a = tx b))) := by simp [neD, okD_s ha, okD_s hb]
theorem tx_eq (a b : List Nat) : decide (tx a = tx b) = decide (a = b) := by
  by_cases h : a = b
  · subst h; simp
  · rw [decide_eq_false h, decide_eq_false fun z => h (tx_inj z)]
theorem addD_tx {a b : List Nat} (h : a.length + b.length ≤ 1000) : addD (.str (tx a)) (.str (tx b)) = some (.str (tx (a ++ b))) := by
  show (if (tx a).length + (tx b).length ≤ sizeLine then some (D.str (tx a ++ tx b)) else none) = _
  rw [if_pos (by rw [tx_len, tx_len, sizeLine_eq]; omega), tx_app]
theorem joinL_len {ms : List Mq} (h : ms ≠ []) : (joinL 32 (ms.map mqL)).length + 1 = 8 * ms.length := by
  cases ms with
  | nil => exact absurd rfl h
  | cons m r =>
    have := tailP_len 32 7 (r.map mqL) (fun w hw => by
      obtain ⟨m, _, rfl⟩ := List.mem_map.mp hw
      exact mqL_len m)
    simp only [List.map_cons, joinL, List.length_append, this, mqL_len, List.length_map, List.length_cons]; omega
theorem joinL_ne {ms : List Mq} (h : ms ≠ []) : joinL 32 (ms.map mqL) ≠ [] := fun e => by
  have := joinL_len h
  rw [e] at this; simp at this; omega
abbrev lineT (ms : List Mq) : Str := tx (joinL 32 (ms.map mqL))
/-! ### writing -/
end DL
end
section
/-! the law's own text of a line -/
namespace DL
open PySem PySem.Spec L2
open PyProof.Rows hiding St
theorem tailP_app (c : Nat) (b : List (List Nat)) : ∀ a : List (List Nat), tailP c (a ++ b) = tailP c a ++ tailP c b
  | [] => rfl
  | y :: ys => by
    show c :: (y ++ tailP c (ys ++ b)) = c :: (y ++ tailP c ys) ++ tailP c b
    rw [tailP_app c b ys]; simp
theorem joinL_snoc (c : Nat) {a : List (List Nat)} (h : a ≠ []) (w : List Nat) : joinL c (a ++ [w]) = joinL c a ++ c :: w := by
  cases a with
  | nil => exact absurd rfl h
  | cons y ys =>
    show y ++ tailP c (ys ++ [w]) = y ++ tailP c ys ++ c :: w
    rw [tailP_app]; simp [tailP]
def lltE (L : D) (t : Str) (s2 s3 : Sl) : DL.Env := [.d L, .d (.str t), s2, s3]
theorem law_line_text_ap {ms : List Mq} (hm : ms.length ≤ 100) : Mi.law_line_text [.d (.lst (ms.map mqD))] = .ok (.str (lineT ms)) [] := by
  let body : MS := seqM (setM 3 (op2 ixX (lstM (sizeM (consM (pureM (.str " ")) (consM (pureM (.str "")) (pureM []))))) (callD intCD (consM (op2 eqD (getM 1) (pureM (.str ""))) (pureM []))))) (setM 1 (op2 addD (op2 addD (op2 addD (op2 addD (getM 1) (getM 3)) (callM Mi.law_cell_text (mdM [false] (consA (op2 ixX (getM 2) (pureM (.int 0))) (pureM []))))) (pureM (.str "-"))) (callM Mi.law_cell_text (mdM [false] (consA (op2 ixX (getM 2) (pureM (.int 1))) (pureM []))))))
  obtain ⟨ρ', h1, s2, s3, rfl⟩ := forM_pre (e := mqD) (tg := tgN 2) (body := body) (fun pre ρ => ∃ s2 s3, ρ = lltE (.lst (ms.map mqD)) (lineT pre) s2 s3) ms (lltE (.lst (ms.map mqD)) (tx []) .no .no) ⟨.no, .no, rfl⟩ (by
    rintro pre ⟨a, b, c, d⟩ post _ ea ⟨s2, s3, rfl⟩
    have hl : pre.length ≤ 100 := by have := congrArg List.length ea; simp at this; omega
    have kk := okT_line pre
    have i0 : ixX (mqD (a, b, c, d)) (.int 0) = some (ceD a b) := rfl
    have i1 : ixX (mqD (a, b, c, d)) (.int 1) = some (ceD c d) := rfl
    have c0 := law_cell_text_ap a b
    have c1 := law_cell_text_ap c d
    have eq := eqD_s kk (b := []) rfl
    rw [tx_eq] at eq
    have g1 : (ceL a b).length = 3 := rfl
    have g2 : (ceL c d).length = 3 := rfl
    have ll : (joinL 32 (pre.map mqL)).length ≤ 800 := by
      cases pre with
      | nil => simp [joinL]
      | cons x r =>
        have := joinL_len (ms := x :: r) (by simp)
        omega
    have key : ∃ A : List Nat, A.length ≤ 1 ∧ joinL 32 ((pre ++ [(a, b, c, d)]).map mqL) = joinL 32 (pre.map mqL) ++ A ++ ceL a b ++ [45] ++ ceL c d ∧
        ∃ v, intCD [.bl (decide (joinL 32 (pre.map mqL) = []))] = some v ∧ ixX (.lst [.str " ", .str ""]) v = some (.str (tx A)) := by
      cases pre with
      | nil => exact ⟨[], by simp, rfl, .int 1, rfl, by rw [← s_nil]; rfl⟩
      | cons x r =>
        refine ⟨[32], by simp, ?_, .int 0, ?_, by rw [← s_blank]; rfl⟩
        · have := joinL_snoc 32 (a := (x :: r).map mqL) (by simp) (mqL (a, b, c, d))
          rw [List.map_append, show [(a, b, c, d)].map mqL = [mqL (a, b, c, d)] from rfl, this, mqL_eq]
          simp
        · rw [decide_eq_false (joinL_ne (by simp))]; rfl
    obtain ⟨A, hA, eJ, v, ev, ex⟩ := key
    refine ⟨lltE (.lst (ms.map mqD)) (lineT pre) (.d (mqD (a, b, c, d))) s3, lltE (.lst (ms.map mqD)) (lineT (pre ++ [(a, b, c, d)])) (.d (mqD (a, b, c, d))) (.d (.str (tx A))), rfl, ?_, _, _, rfl⟩
    unfold lineT
    rw [eJ]
    generalize joinL 32 (pre.map mqL) = J at *
    have a1 := addD_tx (a := J) (b := A) (by omega)
    have a2 := addD_tx (a := J ++ A) (b := ceL a b) (by simp only [List.length_append]; omega)
    have a3 := addD_tx (a := J ++ A ++ ceL a b) (b := [45]) (by simp only [List.length_append, List.length_cons, List.length_nil]; omega)
    have a4 := addD_tx (a := J ++ A ++ ceL a b ++ [45]) (b := ceL c d) (by simp only [List.length_append, List.length_cons, List.length_nil]; omega)
    rw [← s_dash] at a3
    rw [← s_nil] at eq
    generalize J ++ A ++ ceL a b ++ [45] ++ ceL c d = J5 at *
    generalize J ++ A ++ ceL a b ++ [45] = J4 at *
    generalize J ++ A ++ ceL a b = J3 at *
    generalize J ++ A = J2 at *
    generalize ceL a b = CA at *
    generalize ceL c d = CB at *
    generalize ceD a b = DA at *
    generalize ceD c d = DB at *
    generalize mqD (a, b, c, d) = DM at *
    generalize decide (J = []) = bb at *
    generalize ms.map mqD = L at *
    show seqM _ _ _ = _
    refine (seq_nx (ρ' := lltE (.lst L) (tx J) (.d DM) (.d (.str (tx A)))) ?_).trans ?_
    · unfold lltE
      simp [eq, ev, ex, sizeLine_eq]
    · unfold lltE
      simp [i0, i1, c0, c1, a1, a2, a3, a4])
  unfold Mi.law_line_text
  refine fn_run (ρ0 := [.d (.lst (ms.map mqD)), .no, .no, .no]) (ρ' := lltE (.lst (ms.map mqD)) (lineT ms) s2 s3) rfl rfl ((seq_nx (ρ' := lltE (.lst (ms.map mqD)) (tx []) .no .no) ?_).trans ((seq_nx (ρ' := lltE (.lst (ms.map mqD)) (lineT ms) s2 s3) ?_).trans (ret_ok (ρ' := lltE (.lst (ms.map mqD)) (lineT ms) s2 s3) rfl)))
  · unfold lltE
    generalize ms.map mqD = L at *
    rw [← s_nil]
    simp
  · rw [forD_ap]
    have it : itemsGM (getM 0) (lltE (.lst (ms.map mqD)) (tx []) .no .no) = .ok (ms.map mqD) (lltE (.lst (ms.map mqD)) (tx []) .no .no) := by
      have ig : itemsG (.lst (ms.map mqD)) = some (ms.map mqD) := rfl
      unfold lltE
      generalize ms.map mqD = L at *
      simp [ig]
    rw [it]
    exact h1
end DL
end
section
namespace DL
open PySem PySem.Spec L2 DLS
open PyProof.Rows hiding St
/-! ### what a way is -/
theorem rideGo_in {y : Yd} {ps : List Piece} {side : Int} {c s : Cell} : ∀ (n : Nat) (a k : Int), k ∈ rideGo y ps side c s n a → a ≤ k ∧ k < a + n ∧ mayEnd y ps side (goneC c s k) = true ∧ ∀ j, a ≤ j → j < k → isFree y (goneC c s j) = true ∧ pieceAt ps (goneC c s j) = none
  | 0, a, k, h => by simp [rideGo] at h
  | n + 1, a, k, h => by
    unfold rideGo at h
    split at h
    · rename_i hm
      rcases List.mem_cons.mp h with rfl | h
      · exact ⟨by omega, by omega, hm, fun j h1 h2 => by omega⟩
      · split at h
        · cases h
        · rename_i hp
          obtain ⟨h1, h2, h3, h4⟩ := rideGo_in n (a + 1) k h
          refine ⟨by omega, by omega, h3, fun j j1 j2 => ?_⟩
          by_cases e : j = a
          · subst e
            refine ⟨?_, by simpa using hp⟩
            unfold mayEnd at hm
            rw [Bool.and_eq_true] at hm
            exact hm.1
          · exact h4 j (by omega) j2
    · cases h
/-- a way of a piece: the step is one of its kind's, turned; so many times it is gone, over empty cells -/
structure WayOk (y : Yd) (p : Pos) (q : Piece) (K : Kind) (m : Move) (w : Way) : Prop where
  mem : q ∈ p.ps
  side : q.side = p.turn
  cell : q.cell = m.1
  kind : lookK y.kinds q.kd = some K
  fin : mayEnd y p.ps p.turn m.2 = true
  way : ∃ s, w.step = turnS s p.turn ∧ m.2 = goneC m.1 w.step w.n ∧ ((w.ride = false ∧ s ∈ K.leaps ∧ w.n = 1) ∨ (w.ride = true ∧ s ∈ K.rides ∧ 1 ≤ w.n ∧ w.n < 9 ∧ ∀ j, 1 ≤ j → j < w.n → isFree y (goneC m.1 w.step j) = true ∧ pieceAt p.ps (goneC m.1 w.step j) = none))
theorem way_ok {y : Yd} {p : Pos} {m : Move} {w : Way} (h : (m, w) ∈ allWays y p) : ∃ q K, WayOk y p q K m w := by
  unfold allWays at h
  obtain ⟨q, hq, h⟩ := List.mem_flatMap.mp h
  unfold pieceW at h
  split at h
  · rename_i hs
    obtain ⟨z, hz, e⟩ := List.mem_map.mp h
    obtain ⟨c, w'⟩ := z
    injection e with e1 e2
    subst e1 e2
    unfold waysOf at hz
    split at hz
    · rename_i K hK
      refine ⟨q, K, hq, hs, rfl, hK, ?_, ?_⟩
      all_goals
        unfold waysK at hz
        rcases List.mem_append.mp hz with hz | hz
        · obtain ⟨s, h1, h2⟩ := List.mem_flatMap.mp hz
          unfold leapW at h2
          rw [hs] at h2
          split at h2
          · rename_i hm
            simp at h2
            obtain ⟨rfl, rfl⟩ := h2
            first
              | exact hm
              | exact ⟨s, rfl, rfl, .inl ⟨rfl, h1, rfl⟩⟩
          · cases h2
        · obtain ⟨s, h1, h2⟩ := List.mem_flatMap.mp hz
          unfold rideW at h2
          rw [hs] at h2
          obtain ⟨k, hk, e⟩ := List.mem_map.mp h2
          injection e with e1 e2
          subst e1 e2
          obtain ⟨k1, k2, k3, k4⟩ := rideGo_in 8 1 k hk
          first
            | exact k3
            | exact ⟨s, rfl, rfl, .inr ⟨rfl, h1, k1, by show k < 9; omega, k4⟩⟩
    · cases hz
  · cases h
theorem pieceAt_some {ps : List Piece} (nd : (ps.map (·.cell)).Nodup) {q : Piece} (h : q ∈ ps) : pieceAt ps q.cell = some (q.side, q.kd) := by
  unfold pieceAt
  induction ps with
  | nil => cases h
  | cons a ps ih =>
    rw [List.map_cons, List.nodup_cons] at nd
    rw [List.findSome?_cons]
    rcases List.mem_cons.mp h with rfl | h
    · simp
    · have : a.cell ≠ q.cell := fun z => nd.1 (List.mem_map.mpr ⟨q, h, z.symm⟩)
      simp only [this, if_false]
      exact ih nd.2 h
theorem mayEnd_free {y : Yd} {ps : List Piece} {side : Int} {c : Cell} (h : mayEnd y ps side c = true) : isFree y c = true := by
  unfold mayEnd at h
  rw [Bool.and_eq_true] at h
  exact h.1
theorem mayEnd_other {y : Yd} {ps : List Piece} {side : Int} {c : Cell} (nd : (ps.map (·.cell)).Nodup) (h : mayEnd y ps side c = true) {q : Piece} (hq : q ∈ ps) (e : q.cell = c) : q.side ≠ side := by
  unfold mayEnd at h
  rw [Bool.and_eq_true, ← e, pieceAt_some nd hq] at h
  simpa using h.2
/-! ### fewer than 64 moves -/
theorem nodup_len {α : Type} [DecidableEq α] : ∀ {l m : List α}, l.Nodup → (∀ x ∈ l, x ∈ m) → l.length ≤ m.length
  | [], _, _, _ => Nat.zero_le _
  | a :: l, m, nd, h => by
    rw [List.nodup_cons] at nd
    have ha := h a (by simp)
    have ih := nodup_len (l := l) (m := m.erase a) nd.2 fun x hx => by
      have hx' := h x (by simp [hx])
      have : x ≠ a := fun z => nd.1 (z ▸ hx)
      exact (List.mem_erase_of_ne this).mpr hx'
    rw [List.length_erase_of_mem ha] at ih
    have := List.length_pos_of_mem ha
    simp only [List.length_cons]
    omega
theorem prod_len {α β : Type} (xs : List α) (ys : List β) : (xs.flatMap fun a => ys.map fun b => (a, b)).length = xs.length * ys.length := by
  induction xs with
  | nil => simp
  | cons a xs ih => rw [List.flatMap_cons, List.length_append, ih, List.length_map, List.length_cons, Nat.succ_mul, Nat.add_comm]
structure Small (y : Yd) : Prop where
  h0 : 0 ≤ y.h
  h4 : y.h ≤ 4
  w0 : 0 ≤ y.w
  w4 : y.w ≤ 4
/-- a board up to 4 x 4 with up to 7 pieces, or up to 5 x 5 with up to 3 -/
structure Smb (y : Yd) (n : Nat) : Prop where
  h0 : 0 ≤ y.h
  w0 : 0 ≤ y.w
  c : (y.h ≤ 4 ∧ y.w ≤ 4 ∧ n ≤ 7) ∨ (y.h ≤ 5 ∧ y.w ≤ 5 ∧ n ≤ 3)
theorem Smb.mono {y : Yd} {n m : Nat} (s : Smb y n) (h : m ≤ n) : Smb y m := ⟨s.h0, s.w0, s.c.elim (fun z => .inl ⟨z.1, z.2.1, Nat.le_trans h z.2.2⟩) fun z => .inr ⟨z.1, z.2.1, Nat.le_trans h z.2.2⟩⟩
def ownC (p : Pos) : List Cell := (p.ps.filter fun q => decide (q.side = p.turn)).map (·.cell)
theorem own_bound {y : Yd} {p : Pos} (hs : Smb y p.ps.length) (hp : IsPos y p) : ∃ b : Nat, (nubE [] ((allWays y p).map (·.1))).length ≤ (ownC p).length * (b - (ownC p).length) ∧ ((b ≤ 16 ∧ (ownC p).length ≤ 7) ∨ (b ≤ 25 ∧ (ownC p).length ≤ 3 ∧ p.ps.length ≤ 3)) := by
  have hl : p.ps.length ≤ 7 := by have := hs.c; omega
  let own := ownC p
  let brd := boardN y.h.toNat y.w.toNat
  have ondo : own.Nodup := hp.nd.sublist (List.filter_sublist.map _)
  have ol : own.length ≤ 7 := by
    show (List.map _ _).length ≤ 7
    rw [List.length_map]
    exact Nat.le_trans (List.length_filter_le _ _) hl
  have h0 := hs.h0; have w0 := hs.w0; have h4 : y.h ≤ 5 := by have := hs.c; omega
  have w4 : y.w ≤ 5 := by have := hs.c; omega
  have ol3 : own.length ≤ p.ps.length := by
    show (List.map _ _).length ≤ _
    rw [List.length_map]
    exact List.length_filter_le _ _
  have bl : (brd.length ≤ 16 ∧ own.length ≤ 7) ∨ (brd.length ≤ 25 ∧ own.length ≤ 3 ∧ p.ps.length ≤ 3) := by
    rcases hs.c with z | z
    · refine .inl ⟨?_, by omega⟩
      show (boardN _ _).length ≤ _
      rw [boardN_len]
      have : y.h.toNat * y.w.toNat ≤ 4 * 4 := Nat.mul_le_mul (by omega) (by omega)
      omega
    · refine .inr ⟨?_, by omega, z.2.2⟩
      show (boardN _ _).length ≤ _
      rw [boardN_len]
      have : y.h.toNat * y.w.toNat ≤ 5 * 5 := Nat.mul_le_mul (by omega) (by omega)
      omega
  have bnd : brd.Nodup := rising_nodup (rising_board _ _ (by omega) (by omega))
  have inb : ∀ c, isFree y c = true → c ∈ brd := fun c hc => by
    obtain ⟨⟨a, b⟩, d, e⟩ := free_of hc
    exact mem_board.mpr (by omega)
  let oth := brd.filter fun c => !decide (c ∈ own)
  have othl : oth.length + own.length ≤ brd.length := by
    have nd : (oth ++ own).Nodup := by
      rw [List.nodup_append]
      refine ⟨bnd.sublist List.filter_sublist, ondo, fun a ha b hb e => ?_⟩
      have := (List.mem_filter.mp ha).2
      rw [e] at this
      simp [hb] at this
    have := nodup_len nd (m := brd) fun x hx => by
      rcases List.mem_append.mp hx with hx | hx
      · exact (List.mem_filter.mp hx).1
      · obtain ⟨q, hq, rfl⟩ := List.mem_map.mp hx
        exact inb _ (hp.pc q (List.mem_filter.mp hq).1).1
    rw [List.length_append] at this
    omega
  have := nodup_len (l := nubE [] ((allWays y p).map (·.1))) (m := own.flatMap fun a => oth.map fun b => (a, b)) nubE_nodup fun mv hm => by
    rw [mem_nubE] at hm
    obtain ⟨⟨m, w⟩, hw, rfl⟩ := List.mem_map.mp hm.1
    obtain ⟨q, K, W⟩ := way_ok hw
    refine List.mem_flatMap.mpr ⟨m.1, List.mem_map.mpr ⟨q, List.mem_filter.mpr ⟨W.mem, by simp [W.side]⟩, W.cell⟩, List.mem_map.mpr ⟨m.2, List.mem_filter.mpr ⟨inb _ (mayEnd_free W.fin), ?_⟩, rfl⟩⟩
    have : m.2 ∉ own := fun z => by
      obtain ⟨r, hr, e⟩ := List.mem_map.mp z
      obtain ⟨r1, r2⟩ := List.mem_filter.mp hr
      exact mayEnd_other hp.nd W.fin r1 e (by simpa using r2)
    simpa using this
  rw [prod_len] at this
  have hh : own.length * oth.length ≤ own.length * (brd.length - own.length) := Nat.mul_le_mul_left _ (by omega)
  exact ⟨brd.length, Nat.le_trans this hh, bl⟩
theorem mul_few {n b : Nat} (h : (b ≤ 16 ∧ n ≤ 7) ∨ (b ≤ 25 ∧ n ≤ 2)) : n * (b - n) ≤ 63 := by
  rcases h with ⟨b1, n1⟩ | ⟨b1, n1⟩
  · have h1 : n * (b - n) ≤ n * (16 - n) := Nat.mul_le_mul_left _ (by omega)
    have : n = 0 ∨ n = 1 ∨ n = 2 ∨ n = 3 ∨ n = 4 ∨ n = 5 ∨ n = 6 ∨ n = 7 := by omega
    rcases this with rfl | rfl | rfl | rfl | rfl | rfl | rfl | rfl <;> omega
  · have h1 : n * (b - n) ≤ n * (25 - n) := Nat.mul_le_mul_left _ (by omega)
    have : n = 0 ∨ n = 1 ∨ n = 2 := by omega
    rcases this with rfl | rfl | rfl <;> omega
theorem few64 {y : Yd} {p : Pos} (hs : Smb y p.ps.length) (hp : IsPos y p) : Few64 y p := by
  obtain ⟨b, h1, h2⟩ := own_bound hs hp
  unfold Few64
  have : (ownC p).length * (b - (ownC p).length) ≤ 66 := by
    generalize (ownC p).length = n at *
    rcases h2 with h2 | ⟨b1, n1, _⟩
    · have := mul_few (.inl h2); omega
    · by_cases c : n ≤ 2
      · have := mul_few (n := n) (b := b) (.inr ⟨b1, c⟩); omega
      · have : n = 3 := by omega
        subst this
        omega
  omega
end DL
end
section
namespace DL
open PySem PySem.Spec L2 DLS
open PyProof.Rows hiding St
/-! ### the program's doors -/
structure Sit (y : Yd) (p : Pos) : Prop where
  gy : YGood y
  sm : Smb y p.ps.length
  ps : isPos y p = true
  l7 : p.ps.length ≤ 7
theorem Sit.ok {y : Yd} {p : Pos} (S : Sit y p) : POk y p := POk.of S.ps
theorem Sit.ip {y : Yd} {p : Pos} (S : Sit y p) : IsPos y p := IsPos.of S.ps
theorem Sit.few {y : Yd} {p : Pos} (S : Sit y p) : Few64 y p := few64 S.sm S.ip
section
variable {y : Yd} {p : Pos}
theorem moves_non {m : Move} (h : m ∈ movesOf y p) : DL.verdict y p = .non ∧ ∃ w, (m, w) ∈ allWays y p := by
  unfold movesOf at h
  split at h
  · rename_i hv
    refine ⟨hv, ?_⟩
    obtain ⟨⟨m', w⟩, hw, e⟩ := List.mem_map.mp (mem_ssetE.mp h)
    exact ⟨w, by rw [← e]; exact hw⟩
  · cases h
/-! ### behind a move -/
theorem mem_go {m : Move} {ps : List Piece} {r : Piece} : r ∈ ps.flatMap (goPiece m) ↔ (∃ q ∈ ps, q.cell = m.1 ∧ r = ⟨m.2, q.side, q.kd⟩) ∨ (r ∈ ps ∧ r.cell ≠ m.1 ∧ r.cell ≠ m.2) := by
  rw [List.mem_flatMap]
  constructor
  · rintro ⟨q, hq, h⟩
    unfold goPiece at h
    split at h
    · rename_i h1
      exact .inl ⟨q, hq, h1, by simpa using h⟩
    · rename_i h1
      split at h
      · cases h
      · rename_i h2
        have : r = q := by simpa using h
        subst this
        exact .inr ⟨hq, h1, h2⟩
  · rintro (⟨q, hq, h1, rfl⟩ | ⟨hq, h1, h2⟩)
    · exact ⟨q, hq, by unfold goPiece; rw [if_pos h1]; simp⟩
    · exact ⟨r, hq, by unfold goPiece; rw [if_neg h1, if_neg h2]; simp⟩
theorem go_nodup (m : Move) : ∀ {ps : List Piece}, (ps.map (·.cell)).Nodup → ((ps.flatMap (goPiece m)).map (·.cell)).Nodup
  | [], _ => by simp
  | a :: ps, nd => by
    rw [List.map_cons, List.nodup_cons] at nd
    have ih := go_nodup m nd.2
    rw [List.flatMap_cons, List.map_append]
    rw [List.nodup_append]
    refine ⟨?_, ih, ?_⟩
    · unfold goPiece
      split
      · simp
      · split <;> simp
    · intro c hc d hd e
      obtain ⟨r, hr, rfl⟩ := List.mem_map.mp hd
      obtain ⟨s, hs, rfl⟩ := List.mem_map.mp hc
      unfold goPiece at hs
      split at hs
      · rename_i h1
        simp at hs; subst hs
        rcases mem_go.mp hr with ⟨q, hq, h2, rfl⟩ | ⟨hq, h2, h3⟩
        · exact nd.1 (List.mem_map.mpr ⟨q, hq, by rw [h1, h2]⟩)
        · exact h3 e.symm
      · rename_i h1
        split at hs
        · cases hs
        · rename_i h2
          simp at hs; subst hs
          rcases mem_go.mp hr with ⟨q, hq, h3, rfl⟩ | ⟨hq, h3, h4⟩
          · exact h2 e
          · exact nd.1 (List.mem_map.mpr ⟨r, hq, e.symm⟩)
theorem crown_of {s : Int} (h : crowns y p.ps s ≠ []) : ∃ q ∈ p.ps, q.side = s ∧ crownOf y q.kd = 1 := by
  obtain ⟨c, hc⟩ := List.exists_mem_of_ne_nil _ h
  unfold crowns at hc
  obtain ⟨q, hq, _⟩ := List.mem_map.mp hc
  obtain ⟨h1, h2⟩ := List.mem_filter.mp hq
  simp at h2
  exact ⟨q, h1, h2.1, h2.2⟩
theorem verdict_crowns (h : DL.verdict y p = .non) : crowns y p.ps 0 ≠ [] ∧ crowns y p.ps 1 ≠ [] := by
  unfold DL.verdict at h
  split at h
  · cases h
  · rename_i h0
    split at h
    · cases h
    · rename_i h1
      exact ⟨h0, h1⟩
theorem after_sit (S : Sit y p) {m : Move} (hm : m ∈ movesOf y p) : Sit y (afterOf p m) := by
  obtain ⟨hv, w, hw⟩ := moves_non hm
  obtain ⟨q, K, W⟩ := way_ok hw
  have ip := S.ip
  have len : (p.ps.flatMap (goPiece m)).length ≤ p.ps.length := by
    have := flat_len (goPiece m) 1 p.ps fun q _ => goPiece_len m q
    omega
  have mv : (⟨m.2, q.side, q.kd⟩ : Piece) ∈ p.ps.flatMap (goPiece m) := mem_go.mpr (.inl ⟨q, W.mem, W.cell, rfl⟩)
  have l7 := S.l7
  refine ⟨S.gy, S.sm.mono (by show (srtE _).length ≤ _; rw [(srtE_perm _).length_eq]; exact len), ?_, ?_⟩
  · refine IsPos.mk' (by have := ip.tn; omega) (List.length_pos_of_mem mv) (by omega) (fun r hr => ?_) (go_nodup m ip.nd) ?_
    · rcases mem_go.mp hr with ⟨q', hq', h1, rfl⟩ | ⟨hq', _, _⟩
      · exact ⟨mayEnd_free W.fin, (ip.pc q' hq').2.1, (ip.pc q' hq').2.2⟩
      · exact ip.pc r hq'
    · have cr : crowns y p.ps p.turn ≠ [] := by
        rcases ip.tn with e | e <;> rw [e]
        · exact (verdict_crowns hv).1
        · exact (verdict_crowns hv).2
      obtain ⟨r, hr, h1, h2⟩ := crown_of cr
      by_cases h3 : r.cell = m.1
      · exact ⟨⟨m.2, r.side, r.kd⟩, mem_go.mpr (.inl ⟨r, hr, h3, rfl⟩), (ip.pc r hr).2.1, h2⟩
      · have h4 : r.cell ≠ m.2 := fun z => mayEnd_other ip.nd W.fin hr z h1
        exact ⟨r, mem_go.mpr (.inr ⟨hr, h3, h4⟩), (ip.pc r hr).2.1, h2⟩
  · show (srtE _).length ≤ 7
    rw [(srtE_perm _).length_eq]; omega
end
end DL
end
section
namespace DL
open PySem PySem.Spec L2 DLS
open PyProof.Rows hiding St
/-! ### lines and their numbers -/
section
variable {y : Yd}
end
end DL
end
section
namespace DL
open PySem PySem.Spec L2 DLS
open PyProof.Rows hiding St
section
variable {y : Yd}
end
end DL
end
section
namespace DL
open PySem PySem.Spec L2 DLS
open PyProof.Rows hiding St
/-! ### a comprehension that changes a state -/
/-- a constructed yard is a good one -/
theorem YIn.good {h w : Int} {holes : List Cell} {ks : List (Kd × Kind)} {g0 g1 : List Cell} {stuck : Str} (H : YIn h w holes ks g0 g1 stuck) : YGood (mkY h w holes ks g0 g1 stuck) := by
  have lk : ∀ k K, lookK (mkY h w holes ks g0 g1 stuck).kinds k = some K → (k, K) ∈ ks := fun k K e => by
    have e : lookK (ordK ks) k = some K := e
    rw [lookK_ord H.nd] at e
    exact lookK_in e
  refine ⟨⟨H.h5, H.w5⟩, ?_, ?_, H.lh, ⟨(H.g _ (.inl rfl)).2.1, (H.g _ (.inr rfl)).2.1⟩, H.st⟩
  · intro k K e s hs
    have hk := (H.kk _ (lk k K e)).1
    unfold okKind stepsAll at hk
    simp only [Bool.and_eq_true, List.all_eq_true] at hk
    have := hk.2.2.2 s (List.mem_append.mpr (.inr hs))
    unfold isStep at this
    simp only [Bool.and_eq_true, Bool.not_eq_true', decide_eq_false_iff_not] at this
    exact this.1
  · intro k K e
    exact (H.kk _ (lk k K e)).2
end DL
end
section
namespace DL
open PySem PySem.Spec L2 DLS
open PyProof.Rows hiding St
/-! ### family B: the drawing state -/
end DL
end
section
namespace DL
open PySem PySem.Spec L2 DLS
open PyProof.Rows hiding St
/-- steps that a kind may have -/
structure SB (L : List Cell) : Prop where
  ri : risingB ltE L = true
  st : ∀ s ∈ L, isStep s = true
end DL
end
section
namespace DL
open PySem PySem.Spec L2 DLS
open PyProof.Rows hiding St
/-! ### what must hold ahead of a run: weakest conditions -/
@[irreducible] def Wp {α : Type} (m : M α) (ρ : DL.Env) (Q : α → DL.Env → Prop) (X : Str → DL.Env → Prop) : Prop := match m ρ with
  | .ok a ρ' => Q a ρ'
  | .exc c ρ' => X c ρ'
  | .stuck => False
@[irreducible] def Fp (r : FRes) (Q : D → List OC → Prop) (X : Str → List OC → Prop) : Prop := match r with
  | .ok d os => Q d os
  | .exc c os => X c os
  | .stuck => False
abbrev noX {α : Type} : Str → α → Prop := fun _ _ => False
section
variable {α β : Type} {ρ ρ' : DL.Env} {X : Str → DL.Env → Prop} {Q : α → DL.Env → Prop} {QD : D → DL.Env → Prop} {QB : Bool → DL.Env → Prop} {QL : List D → DL.Env → Prop} {QA : List Ag → DL.Env → Prop} {QF : Flow → DL.Env → Prop} {QU : Unit → DL.Env → Prop} {QC : OC → DL.Env → Prop}
theorem Wp_of {m : M α} {a : α} (h : m ρ = .ok a ρ') : Wp m ρ Q X = Q a ρ' := by unfold Wp; rw [h]
@[simp] theorem Fp_ok {d : D} {os : List OC} {P : D → List OC → Prop} {Y : Str → List OC → Prop} : Fp (.ok d os) P Y = P d os := by unfold Fp; rfl
@[simp] theorem Fp_ex {d : Str} {os : List OC} {P : D → List OC → Prop} {Y : Str → List OC → Prop} : Fp (.exc d os) P Y = Y d os := by unfold Fp; rfl
@[simp] theorem Fp_stuck {P : D → List OC → Prop} {Y : Str → List OC → Prop} : Fp .stuck P Y = False := by unfold Fp; rfl
theorem Fp_ok' {r : FRes} {P : D → List OC → Prop} (h : Fp r P noX) : ∃ d os, r = .ok d os ∧ P d os := by
  unfold Fp at h
  cases r with
  | ok a ρ' => exact ⟨a, ρ', rfl, h⟩
  | exc c ρ' => exact h.elim
  | stuck => exact h.elim
theorem Fp_mono {r : FRes} {P P' : D → List OC → Prop} {Y : Str → List OC → Prop} (h : Fp r P noX) (hq : ∀ a ρ', P a ρ' → P' a ρ') : Fp r P' Y := by
  unfold Fp at h ⊢
  cases r with
  | ok a ρ' => exact hq _ _ h
  | exc c ρ' => exact h.elim
  | stuck => exact h.elim
@[simp] theorem Wp_pure (a : α) : Wp (pureM a) ρ Q X = Q a ρ := by unfold Wp; rfl
@[simp] theorem Wp_bind (m : M β) (k : β → M α) : Wp (bindM m k) ρ Q X = Wp m ρ (fun a ρ' => Wp (k a) ρ' Q X) X := by
  unfold Wp bindM
  cases m ρ <;> rfl
@[simp] theorem Wp_stuck : Wp (stuckM : M α) ρ Q X = False := by unfold Wp; rfl
@[simp] theorem Wp_lift (o : Option α) : Wp (liftM o) ρ Q X = ∃ z, o = some z ∧ Q z ρ := by
  cases o with
  | none => simp [liftM]
  | some z => simp [liftM]
@[simp] theorem Wp_getM (i : Nat) : Wp (getM i) ρ QD X = ∃ x, ρ[i]? = some (.d x) ∧ QD x ρ := by
  unfold Wp getM
  cases e : ρ[i]? with
  | none => simp
  | some s => cases s <;> simp
@[simp] theorem Wp_getO (i : Nat) : Wp (getO i) ρ QL X = ∃ x, ρ[i]? = some (.own x) ∧ QL x ρ := by
  unfold Wp getO
  cases e : ρ[i]? with
  | none => simp
  | some s =>
    match s with
    | .cell (.l xs) => simp
    | .cell (.k _ _) => simp
    | .no => simp
    | .d _ => simp
    | .exn _ => simp
@[simp] theorem Wp_getC (i : Nat) : Wp (getC i) ρ QC X = ∃ x, ρ[i]? = some (.cell x) ∧ QC x ρ := by
  unfold Wp getC
  cases e : ρ[i]? with
  | none => simp
  | some s => cases s <;> simp
@[simp] theorem Wp_rdM (i : Nat) : Wp (rdM i) ρ QD X = ((∃ x, ρ[i]? = some (.d x) ∧ QD x ρ) ∨ (∃ c, ρ[i]? = some (.cell c) ∧ QD (ocD c) (ρ.set i (.d (ocD c))))) := by
  unfold Wp rdM
  cases e : ρ[i]? with
  | none => simp
  | some s => cases s <;> simp
@[simp] theorem Wp_putO (i : Nat) (xs : List D) : Wp (putO i xs) ρ QU X = QU () (ρ.set i (.own xs)) := by unfold Wp; rfl
@[simp] theorem Wp_putC (i : Nat) (c : OC) : Wp (putC i c) ρ QU X = QU () (ρ.set i (.cell c)) := by unfold Wp; rfl
@[simp] theorem Wp_haveS (i : Nat) : Wp (haveS i) ρ QU X = ((∃ c, ρ[i]? = some (.cell c)) ∧ QU () ρ ∨ (∃ c, ρ[i]? = some (.exn c)) ∧ QU () ρ) := by
  unfold Wp haveS
  cases e : ρ[i]? with
  | none => simp
  | some s => cases s <;> simp
@[simp] theorem Wp_op2 (g : D → D → Option D) (fa fb : M D) : Wp (op2 g fa fb) ρ QD X = Wp fa ρ (fun x ρ1 => Wp fb ρ1 (fun y ρ2 => ∃ z, g x y = some z ∧ QD z ρ2) X) X := by simp [op2]
@[simp] theorem Wp_opO (i : Nat) (g : List D → D → Option D) (fb : M D) : Wp (opO i g fb) ρ QD X = Wp fb ρ (fun y ρ1 => Wp (getO i) ρ1 (fun xs ρ2 => ∃ z, g xs y = some z ∧ QD z ρ2) X) X := by simp [opO]
@[simp] theorem Wp_opC (i : Nat) (g : OC → D → Option D) (fb : M D) : Wp (opC i g fb) ρ QD X = Wp fb ρ (fun y ρ1 => Wp (getC i) ρ1 (fun xs ρ2 => ∃ z, g xs y = some z ∧ QD z ρ2) X) X := by simp [opC]
def isBl : D → Prop
  | .bl _ => True
  | _ => False
def blOf : D → Bool
  | .bl b => b
  | _ => false
@[simp] theorem isBl_bl (b : Bool) : isBl (.bl b) = True := rfl
@[simp] theorem blOf_bl (b : Bool) : blOf (.bl b) = b := rfl
theorem Wp_mB {d : D} : Wp (match d with | .bl b => pureM b | _ => stuckM) ρ QB X = (isBl d ∧ QB (blOf d) ρ) := by cases d <;> simp [isBl]
@[simp] theorem Wp_boolM (f : M D) : Wp (boolM f) ρ QB X = Wp f ρ (fun d ρ' => isBl d ∧ QB (blOf d) ρ') X := by
  unfold boolM
  rw [Wp_bind]
  congr 1
  funext d ρ'
  exact Wp_mB
@[simp] theorem Wp_andM (f g : M Bool) : Wp (andM f g) ρ QB X = Wp f ρ (fun b ρ' => if b = true then Wp g ρ' QB X else QB false ρ') X := by
  unfold andM
  rw [Wp_bind]
  congr 1
  funext d ρ'
  cases d <;> simp
@[simp] theorem Wp_orM (f g : M Bool) : Wp (orM f g) ρ QB X = Wp f ρ (fun b ρ' => if b = true then QB true ρ' else Wp g ρ' QB X) X := by
  unfold orM
  rw [Wp_bind]
  congr 1
  funext d ρ'
  cases d <;> simp
@[simp] theorem Wp_notM (f : M Bool) : Wp (notM f) ρ QB X = Wp f ρ (fun b ρ' => QB (!b) ρ') X := by simp [notM]
@[simp] theorem Wp_andV (f g : M D) : Wp (andV f g) ρ QD X = Wp f ρ (fun d ρ' => isBl d ∧ if blOf d = true then Wp g ρ' QD X else QD (.bl false) ρ') X := by
  unfold andV
  rw [Wp_bind]
  congr 1
  funext d ρ'
  cases d with
  | bl b => cases b <;> simp [isBl]
  | _ => simp [isBl]
@[simp] theorem Wp_orV (f g : M D) : Wp (orV f g) ρ QD X = Wp f ρ (fun d ρ' => isBl d ∧ if blOf d = true then QD (.bl true) ρ' else Wp g ρ' QD X) X := by
  unfold orV
  rw [Wp_bind]
  congr 1
  funext d ρ'
  cases d with
  | bl b => cases b <;> simp [isBl]
  | _ => simp [isBl]
@[simp] theorem Wp_notV (f : M D) : Wp (notV f) ρ QD X = Wp f ρ (fun d ρ' => isBl d ∧ QD (.bl (!blOf d)) ρ') X := by
  unfold notV
  rw [Wp_bind]
  congr 1
  funext d ρ'
  cases d <;> simp [isBl]
@[simp] theorem Wp_isN (f : M D) : Wp (isN f) ρ QD X = Wp f ρ (fun d ρ' => QD (.bl (isNb d)) ρ') X := by simp [isN]
@[simp] theorem Wp_notN (f : M D) : Wp (notN f) ρ QD X = Wp f ρ (fun d ρ' => QD (.bl (!isNb d)) ρ') X := by simp [notN]
@[simp] theorem Wp_negM (f : M D) : Wp (negM f) ρ QD X = Wp f ρ (fun d ρ' => ∃ i, d = .int i ∧ QD (.int (-i)) ρ') X := by
  unfold negM
  rw [Wp_bind]
  congr 1
  funext d ρ'
  cases d <;> simp
@[simp] theorem Wp_iteM (c : M Bool) (f g : M α) : Wp (iteM c f g) ρ Q X = Wp c ρ (fun b ρ' => if b = true then Wp f ρ' Q X else Wp g ρ' Q X) X := by
  unfold iteM
  rw [Wp_bind]
  congr 1
  funext d ρ'
  cases d <;> simp
@[simp] theorem Wp_consM (f : M D) (g : M (List D)) : Wp (consM f g) ρ QL X = Wp f ρ (fun x ρ1 => Wp g ρ1 (fun xs ρ2 => QL (x :: xs) ρ2) X) X := by simp [consM]
@[simp] theorem Wp_consA (f : M D) (g : M (List Ag)) : Wp (consA f g) ρ QA X = Wp f ρ (fun x ρ1 => Wp g ρ1 (fun xs ρ2 => QA (.d x :: xs) ρ2) X) X := by simp [consA]
@[simp] theorem Wp_consS (i : Nat) (g : M (List Ag)) : Wp (consS i g) ρ QA X = Wp g ρ (fun xs ρ2 => QA (.sl i :: xs) ρ2) X := by simp [consS]
@[simp] theorem Wp_consC (f : M OC) (g : M (List Ag)) : Wp (consC f g) ρ QA X = Wp f ρ (fun x ρ1 => Wp g ρ1 (fun xs ρ2 => QA (.tmp x :: xs) ρ2) X) X := by simp [consC]
@[simp] theorem Wp_lstM (f : M (List D)) : Wp (lstM f) ρ QD X = Wp f ρ (fun x ρ1 => QD (.lst x) ρ1) X := by simp [lstM]
@[simp] theorem Wp_ocL (f : M (List D)) : Wp (ocL f) ρ QC X = Wp f ρ (fun x ρ1 => QC (.l x) ρ1) X := by simp [ocL]
@[simp] theorem Wp_ocM (f : M OC) : Wp (ocM f) ρ QD X = Wp f ρ (fun x ρ1 => QD (ocD x) ρ1) X := by simp [ocM]
theorem Wp_ite {p : Prop} [Decidable p] (m : M α) : Wp (if p then m else stuckM) ρ Q X = (p ∧ Wp m ρ Q X) := by
  by_cases h : p <;> simp [h]
@[simp] theorem Wp_sizeM (f : M (List D)) : Wp (sizeM f) ρ QL X = Wp f ρ (fun x ρ1 => x.length ≤ sizeLine ∧ QL x ρ1) X := by
  unfold sizeM
  rw [Wp_bind]
  congr 1
  funext d ρ'
  rw [Wp_ite, Wp_pure]
@[simp] theorem Wp_tupM (f : M (List D)) : Wp (tupM f) ρ QD X = Wp f ρ (fun x ρ1 => x.length ≤ sizeLine ∧ QD (.tup x) ρ1) X := by
  unfold tupM
  rw [Wp_bind, Wp_sizeM]
  simp only [Wp_pure]
@[simp] theorem Wp_callD (g : List D → Option D) (f : M (List D)) : Wp (callD g f) ρ QD X = Wp f ρ (fun x ρ1 => ∃ z, g x = some z ∧ QD z ρ1) X := by simp [callD]
@[simp] theorem Wp_callO (g : List D → Option (List D)) (f : M (List D)) : Wp (callO g f) ρ QL X = Wp f ρ (fun x ρ1 => ∃ z, g x = some z ∧ QL z ρ1) X := by simp [callO]
@[simp] theorem Wp_itemsGM (f : M D) : Wp (itemsGM f) ρ QL X = Wp f ρ (fun x ρ1 => ∃ z, itemsG x = some z ∧ QL z ρ1) X := by simp [itemsGM]
@[simp] theorem Wp_itemsM (f : M D) : Wp (itemsM f) ρ QL X = Wp f ρ (fun x ρ1 => ∃ z, itemsOf x = some z ∧ QL z ρ1) X := by simp [itemsM]
@[simp] theorem Wp_rg1M (f : M (List D)) : Wp (rg1M f) ρ QL X = Wp f ρ (fun x ρ1 => ∃ z, rg1 x = some z ∧ QL z ρ1) X := by simp [rg1M]
@[simp] theorem Wp_rg2M (f : M (List D)) : Wp (rg2M f) ρ QL X = Wp f ρ (fun x ρ1 => ∃ z, rg2 x = some z ∧ QL z ρ1) X := by simp [rg2M]
@[simp] theorem Wp_isiM (T : String) (f : M D) : Wp (isiM T f) ρ QD X = Wp f ρ (fun x ρ1 => ∃ z, (isTy T x).map D.bl = some z ∧ QD z ρ1) X := by simp [isiM]
@[simp] theorem Wp_catM (fa fb : M D) : Wp (catM fa fb) ρ QL X = Wp fa ρ (fun x ρ1 => Wp fb ρ1 (fun y ρ2 => ∃ z, catD x y = some z ∧ QL z ρ2) X) X := by simp [catM]
@[simp] theorem Wp_partM (f : M D) (QO : Option Int → DL.Env → Prop) : Wp (partM f) ρ QO X = Wp f ρ (fun d ρ' => ∃ i, d = .int i ∧ QO (some i) ρ') X := by
  unfold partM
  rw [Wp_bind]
  congr 1
  funext d ρ'
  cases d <;> simp
@[simp] theorem Wp_slM (fe : M D) (fl fh : M (Option Int)) : Wp (slM fe fl fh) ρ QD X = Wp fe ρ (fun x ρ1 => Wp fl ρ1 (fun l ρ2 => Wp fh ρ2 (fun h ρ3 => ∃ z, slD l h x = some z ∧ QD z ρ3) X) X) X := by simp [slM]
@[simp] theorem Wp_revM (f : M D) : Wp (revM f) ρ QD X = Wp f ρ (fun d ρ' => ∃ xs, d = .lst xs ∧ QD (.lst xs.reverse) ρ') X := by
  unfold revM
  rw [Wp_bind]
  congr 1
  funext d ρ'
  cases d <;> simp
def mtR : Option (D × List D) → (D → List D → Prop) → Prop
  | some z, P => P z.1 z.2
  | none, _ => False
@[simp] theorem mtR_some (d : D) (xs : List D) (P : D → List D → Prop) : mtR (some (d, xs)) P = P d xs := rfl
theorem mtR_ex (o : Option (D × List D)) (P : D → List D → Prop) : (∃ z, o = some z ∧ P z.1 z.2) = mtR o P := by
  cases o with
  | none => simp [mtR]
  | some z => simp [mtR]
@[simp] theorem Wp_mtO (i : Nat) (g : List D → List D → Option (D × List D)) (f : M (List D)) : Wp (mtO i g f) ρ QD X = Wp (getO i) ρ (fun _ ρ0 => Wp f ρ0 (fun ds ρ1 => Wp (getO i) ρ1 (fun xs ρ2 => mtR (g xs ds) fun d ys => QD d (ρ2.set i (.own ys))) X) X) X := by
  unfold mtO
  simp only [Wp_bind, Wp_lift, Wp_putO, Wp_pure, mtR_ex]
  congr 1
  funext a b
  congr 1
  funext c d
  congr 1
  funext xs ρ2
  exact mtR_ex _ (fun d ys => QD d (ρ2.set i (.own ys)))
@[simp] theorem Wp_lenO (i : Nat) : Wp (lenO i) ρ QD X = Wp (getO i) ρ (fun xs ρ0 => QD (.int xs.length) ρ0) X := by simp [lenO]
theorem Wp_mF {d : D} {QL : D → DL.Env → Prop} : Wp (match d with | .ins c' ns ds => if c' = c then liftM (fldD f ns ds) else stuckM | _ => stuckM) ρ QL X = ∃ z, getF c f d = some z ∧ QL z ρ := by
  cases d with
  | ins c' ns ds =>
    by_cases h : c' = c
    · simp [getF, h]
    · simp [getF, h]
  | _ => simp [getF]
@[simp] theorem Wp_fldM (c f : Str) (fo : M D) : Wp (fldM c f fo) ρ QD X = Wp fo ρ (fun d ρ' => ∃ z, getF c f d = some z ∧ QD z ρ') X := by
  unfold fldM
  rw [Wp_bind]
  congr 1
  funext d ρ'
  exact Wp_mF
/-! calls -/
@[simp] theorem Wp_mdM (md : List Bool) (fa : M (List Ag)) : Wp (mdM md fa) ρ QA X = Wp fa ρ (fun ags ρ1 => (ags.map (toSl ρ1)).map isOwn = md ∧ QA ags ρ1) X := by
  unfold mdM
  rw [Wp_bind]
  congr 1
  funext ags ρ1
  unfold Wp
  by_cases h : (ags.map (toSl ρ1)).map isOwn = md
  · simp only [h, if_true, true_and]
  · simp only [h, if_false, false_and]
@[simp] theorem Wp_callM (f : Fn) (fa : M (List Ag)) : Wp (callM f fa) ρ QD X = Wp fa ρ (fun ags ρ1 => (slots ags).Nodup ∧ Fp (f (ags.map (toSl ρ1))) (fun d os => QD d (putBack ags os ρ1)) (fun c os => X c (putBack ags os ρ1))) X := by
  unfold callM
  rw [Wp_bind]
  congr 1
  funext ags ρ1
  unfold Wp Fp
  by_cases h : (slots ags).Nodup
  · simp only [h, if_true, true_and]
    cases f (ags.map (toSl ρ1)) <;> rfl
  · simp only [h, if_false, false_and]
@[simp] theorem Wp_callL (f : Fn) (fa : M (List Ag)) : Wp (callL f fa) ρ QL X = Wp (callM f fa) ρ (fun d ρ' => ∃ ds, d = .lst ds ∧ QL ds ρ') X := by
  unfold callL
  rw [Wp_bind]
  congr 1
  funext d ρ'
  cases d <;> simp
theorem Wp_mM {d : D} {c nm : Str} {md : List Bool} {f : Fn} {fa : M (List Ag)} : Wp (match d with | .ins c' ns ds => if c' = c ∧ nm ∉ ns then callM f (mdM md (bindM fa fun ags => pureM (.d (.ins c' ns ds) :: ags))) else stuckM | _ => stuckM) ρ QD X = (isIns c nm d = true ∧ Wp (callM f (mdM md (bindM fa fun ags => pureM (.d d :: ags)))) ρ QD X) := by
  cases d with
  | ins c' ns ds =>
    by_cases h : c' = c ∧ nm ∉ ns
    · simp only [isIns, h, not_false_eq_true, and_self, if_true, decide_true, true_and]
    · simp only [isIns, h, if_false, decide_false, Wp_stuck, Bool.false_eq_true, false_and]
  | _ => simp [isIns]
@[simp] theorem Wp_methD (c nm : Str) (md : List Bool) (f : Fn) (fo : M D) (fa : M (List Ag)) : Wp (methD c nm md f fo fa) ρ QD X = Wp fo ρ (fun d ρ' => isIns c nm d = true ∧ Wp (callM f (mdM md (bindM fa fun ags => pureM (.d d :: ags)))) ρ' QD X) X := by
  unfold methD
  rw [Wp_bind]
  congr 1
  funext d ρ'
  exact Wp_mM
@[simp] theorem Wp_makeM (n : Nat) (fI : List D → Res D) (fa : M (List D)) : Wp (makeM n fI fa) ρ QD X = Wp fa ρ (fun as ρ1 => (as.length = n ∧ noInsL as = true) ∧ (match fI as with | .ok d _ => QD d ρ1 | .exc e _ => X e ρ1 | .stuck => False)) X := by
  unfold makeM
  rw [Wp_bind]
  congr 1
  funext as ρ1
  unfold Wp
  by_cases h : as.length = n ∧ noInsL as = true
  · simp only [h, and_self, if_true, true_and]
    cases fI as <;> rfl
  · simp only [h, if_false, false_and]
/-! statements -/
@[simp] theorem Wp_seqM (a b : MS) : Wp (seqM a b) ρ QF X = Wp a ρ (fun fl ρ' => match fl with | .nx => Wp b ρ' QF X | .ret d => QF (.ret d) ρ' | .brk => QF .brk ρ' | .ct => QF .ct ρ') X := by
  unfold Wp
  rw [seqM_ap]
  cases a ρ with
  | ok fl ρ' => cases fl <;> rfl
  | _ => rfl
@[simp] theorem Wp_skipM : Wp skipM ρ QF X = QF .nx ρ := by unfold Wp; rfl
@[simp] theorem Wp_setM (i : Nat) (f : M D) : Wp (setM i f) ρ QF X = Wp f ρ (fun d ρ' => QF .nx (ρ'.set i (.d d))) X := by unfold setM; rw [Wp_bind]; unfold Wp; rfl
@[simp] theorem Wp_setOM (i : Nat) (f : M (List D)) : Wp (setOM i f) ρ QF X = Wp f ρ (fun d ρ' => QF .nx (ρ'.set i (.own d))) X := by unfold setOM; rw [Wp_bind]; unfold Wp; rfl
@[simp] theorem Wp_setCM (i : Nat) (f : M OC) : Wp (setCM i f) ρ QF X = Wp f ρ (fun d ρ' => QF .nx (ρ'.set i (.cell d))) X := by unfold setCM; rw [Wp_bind]; unfold Wp; rfl
@[simp] theorem Wp_setXM (i : Nat) (f : M D) : Wp (setXM i f) ρ QF X = Wp f ρ (fun d ρ' => match conOf d with | some c => QF .nx (ρ'.set i (.cell c)) | none => QF .nx (ρ'.set i (.d d))) X := by
  unfold setXM
  rw [Wp_bind]
  congr 1
  funext d ρ'
  unfold Wp
  cases conOf d <;> rfl
@[simp] theorem Wp_dropM (f : M D) : Wp (dropM f) ρ QF X = Wp f ρ (fun d ρ' => QF .nx ρ') X := by unfold dropM; rw [Wp_bind]; unfold Wp; rfl
@[simp] theorem Wp_retM (f : M D) : Wp (retM f) ρ QF X = Wp f ρ (fun d ρ' => QF (.ret d) ρ') X := by unfold retM; rw [Wp_bind]; unfold Wp; rfl
@[simp] theorem Wp_retOM (f : M (List D)) : Wp (retOM f) ρ QF X = Wp f ρ (fun d ρ' => QF (.ret (.lst d)) ρ') X := by unfold retOM; rw [Wp_bind]; unfold Wp; rfl
@[simp] theorem Wp_retXM (f : M D) : Wp (retXM f) ρ QF X = Wp f ρ (fun d ρ' => conOf d = none ∧ QF (.ret d) ρ') X := by
  unfold retXM
  rw [Wp_bind]
  congr 1
  funext d ρ'
  unfold Wp
  cases conOf d with
  | none => simp
  | some c => simp
@[simp] theorem Wp_ifM (c : M Bool) (a b : MS) : Wp (ifM c a b) ρ QF X = Wp c ρ (fun t ρ' => if t = true then Wp a ρ' QF X else Wp b ρ' QF X) X := by
  unfold ifM
  rw [Wp_bind]
  congr 1
  funext d ρ'
  cases d <;> simp
@[simp] theorem Wp_raiseM (c : Str) : Wp (raiseM c) ρ QF X = X c ρ := by unfold Wp; rfl
@[simp] theorem Wp_giveM (i : Nat) : Wp (giveM i) ρ QL X = ∃ x, ρ[i]? = some (.own x) ∧ QL x (ρ.set i .no) := by
  unfold giveM
  rw [Wp_bind, Wp_getO]; unfold Wp; rfl
@[simp] theorem Wp_giveX (i : Nat) : Wp (giveX i) ρ QD X = ∃ x, ρ[i]? = some (.cell x) ∧ QD (ocD x) (ρ.set i .no) := by
  unfold giveX
  rw [Wp_bind, Wp_getC]; unfold Wp; rfl
@[simp] theorem Wp_setIM (i : Nat) (fk fe : M D) : Wp (setIM i fk fe) ρ QF X = Wp fe ρ (fun d ρ1 => Wp (getO i) ρ1 (fun _ ρ2 => Wp fk ρ2 (fun z ρ3 => Wp (getO i) ρ3 (fun xs ρ4 => ∃ ys, ixSet xs z d = some ys ∧ QF .nx (ρ4.set i (.own ys))) X) X) X) X := by simp [setIM]
@[simp] theorem Wp_setGM (g : OC → D → D → Option OC) (i : Nat) (fk fe : M D) : Wp (setGM g i fk fe) ρ QF X = Wp fe ρ (fun d ρ1 => Wp (getC i) ρ1 (fun _ ρ2 => Wp fk ρ2 (fun z ρ3 => Wp (getC i) ρ3 (fun c ρ4 => ∃ c', g c z d = some c' ∧ QF .nx (ρ4.set i (.cell c'))) X) X) X) X := by simp [setGM]
@[simp] theorem Wp_forD (it : M (List D)) (tg : TgF) (body : MS) : Wp (forD it tg body) ρ QF X = Wp it ρ (fun xs ρ' => Wp (forM tg body xs) ρ' QF X) X := by unfold forD; rw [Wp_bind]
@[simp] theorem Wp_forN (tg : TgF) (body : MS) : Wp (forM tg body []) ρ QF X = QF .nx ρ := by unfold Wp; rfl
@[simp] theorem Wp_asgM (f : M D) (t : TgF) : Wp (asgM f t) ρ QF X = Wp f ρ (fun d ρ' => ∃ ρ2, t d ρ' = some ρ2 ∧ QF .nx ρ2) X := by
  unfold asgM
  rw [Wp_bind]
  congr 1
  funext d ρ'
  unfold Wp
  dsimp only
  cases t d ρ' with
  | none => simp
  | some ρ2 => simp
@[simp] theorem Wp_parM (i j : Nat) (f : M (List D)) : Wp (parM i j f) ρ QF X = Wp f ρ (fun ds ρ' => ∃ x y, ds = [x, y] ∧ QF .nx ((ρ'.set i (.d x)).set j (.d y))) X := by
  unfold parM
  rw [Wp_bind]
  congr 1
  funext ds ρ'
  unfold Wp
  dsimp only
  match ds with
  | [] => simp
  | [_] => simp
  | [_, _] => exact propext ⟨fun h => ⟨_, _, rfl, h⟩, fun ⟨_, _, e, h⟩ => by cases e; exact h⟩
  | _ :: _ :: _ :: _ => simp
theorem Wp_mC {x y : D} {g : D → D → Option D} {fc : M D} {g' : D → D → Option D} : Wp (bindM (liftM (g x y)) fun z => match z with | .bl true => bindM fc fun w => liftM (g' y w) | .bl false => pureM (.bl false) | _ => stuckM) ρ QD X = ∃ c, g x y = some c ∧ isBl c ∧ if blOf c = true then Wp fc ρ (fun z ρ3 => ∃ u, g' y z = some u ∧ QD u ρ3) X else QD (.bl false) ρ := by
  rw [Wp_bind, Wp_lift]
  cases g x y with
  | none => simp
  | some d =>
    cases d with
    | bl b => cases b <;> simp [isBl]
    | _ => simp [isBl]
@[simp] theorem Wp_chainM (g g' : D → D → Option D) (fa fb fc : M D) : Wp (chainM g g' fa fb fc) ρ QD X = Wp fa ρ (fun x ρ1 => Wp fb ρ1 (fun y ρ2 => ∃ c, g x y = some c ∧ isBl c ∧ if blOf c = true then Wp fc ρ2 (fun z ρ3 => ∃ u, g' y z = some u ∧ QD u ρ3) X else QD (.bl false) ρ2) X) X := by
  unfold chainM
  rw [Wp_bind]
  congr 1
  funext x ρ1
  rw [Wp_bind]
  congr 1
  funext y ρ2
  exact Wp_mC
@[simp] theorem Wp_pairsN (QP : List (D × D) → DL.Env → Prop) : Wp (pairsM []) ρ QP X = QP [] ρ := by unfold Wp; rfl
@[simp] theorem Wp_pairsC (fk fv : M D) (r : List (M D × M D)) (QP : List (D × D) → DL.Env → Prop) : Wp (pairsM ((fk, fv) :: r)) ρ QP X = Wp fk ρ (fun x ρ1 => Wp fv ρ1 (fun y ρ2 => Wp (pairsM r) ρ2 (fun ps ρ3 => QP ((x, y) :: ps) ρ3) X) X) X := by
  show Wp (bindM fk _) ρ QP X = _
  simp
@[simp] theorem Wp_dicC (fs : List (M D × M D)) : Wp (dicC fs) ρ QC X = Wp (pairsM fs) ρ (fun ps ρ1 => (difK (ps.map (·.1)) = true ∧ ps.length ≤ 15) ∧ QC (.k (ps.map (·.1)) (ps.map (·.2))) ρ1) X := by
  unfold dicC
  rw [Wp_bind]
  congr 1
  funext ps ρ1
  rw [Wp_ite, Wp_pure]
@[simp] theorem Wp_dicM (fs : List (M D × M D)) : Wp (dicM fs) ρ QD X = Wp (pairsM fs) ρ (fun ps ρ1 => (difK (ps.map (·.1)) = true ∧ ps.length ≤ 15) ∧ QD (.dic (ps.map (·.1)) (ps.map (·.2))) ρ1) X := by
  unfold dicM
  rw [Wp_bind]
  congr 1
  funext ps ρ1
  rw [Wp_ite, Wp_pure]
@[simp] theorem Wp_lendM (f : M D) : Wp (lendM f) ρ QD X = Wp f (dataE ρ) (fun d _ => atomD d = true ∧ QD d ρ) noX := by
  unfold Wp lendM
  cases f (dataE ρ) with
  | ok d ρ' =>
    dsimp only
    by_cases h : atomD d = true
    · simp [h]
    · simp [h]
  | _ => rfl
@[simp] theorem Wp_lendT (f : M Bool) : Wp (lendT f) ρ QB X = Wp f (dataE ρ) (fun b _ => QB b ρ) noX := by
  unfold Wp lendT
  cases f (dataE ρ) <;> rfl
@[simp] theorem Wp_exnM (i : Nat) (g : Str → Option Bool) : Wp (exnM i g) ρ QD X = ∃ c, ρ[i]? = some (.exn c) ∧ ∃ z, (g c).map D.bl = some z ∧ QD z ρ := by
  unfold Wp exnM
  cases e : ρ[i]? with
  | none => simp
  | some s =>
    cases s with
    | exn c =>
      dsimp only
      cases hg : g c with
      | none => simp [hg]
      | some b => cases b <;> simp [hg]
    | _ => simp
@[simp] theorem Wp_tryM (i : Nat) (sub : Str → Option Bool) (body : MS) (suite : Str → MS) : Wp (tryM i sub body suite) ρ QF X = Wp body ρ QF (fun c ρ1 => (sub c = some true ∧ Wp (suite c) (ρ1.set i (.exn c)) (fun fl ρ2 => noExn (ρ2.set i .no) = true ∧ QF fl (ρ2.set i .no)) noX) ∨ (sub c = some false ∧ X c ρ1)) := by
  unfold Wp tryM
  cases e : body ρ with
  | exc c ρ1 =>
    dsimp only
    cases h : sub c with
    | none => simp
    | some b =>
      cases b with
      | true =>
        dsimp only
        cases h2 : suite c (ρ1.set i (.exn c)) with
        | ok fl ρ2 =>
          dsimp only
          by_cases h3 : noExn (ρ2.set i .no) = true
          · simp [h3]
          · simp [h3]
        | _ => simp
      | false => simp
  | _ => rfl
end
/-- a def by its body -/
theorem Fp_fnM {rm : Bool} {n : Nat} {body : MS} {ρ : DL.Env} {P : D → List OC → Prop} {Y : Str → List OC → Prop} : Fp (fnM rm n body ρ) P Y = Wp body (ρ ++ List.replicate (n - ρ.length) .no) (fun fl ρ' => match fl with | .nx => rm = false ∧ P .non (collect ρ ρ') | .ret d => P d (collect ρ ρ') | _ => False) (fun c ρ' => Y c (collect ρ ρ')) := by
  unfold Fp Wp
  rw [fnM_ap]
  cases body (ρ ++ List.replicate (n - ρ.length) .no) with
  | ok fl ρ' =>
    cases fl with
    | nx => cases rm <;> simp
    | ret d => rfl
    | _ => rfl
  | _ => rfl
end DL
end
section
namespace DL
open PySem PySem.Spec L2 DLS
open PyProof.Rows hiding St
@[simp] theorem putBack_sl (i : Nat) (r : List Ag) (o : OC) (os : List OC) (ρ : DL.Env) : putBack (.sl i :: r) (o :: os) ρ = (match ρ.getD i .no with | .cell _ => putBack r os (ρ.set i (.cell o)) | _ => putBack r (o :: os) ρ) := by
  show (match ρ.getD i .no, o :: os with | .cell _, o :: os' => putBack r os' (ρ.set i (.cell o)) | _, os => putBack r os ρ) = _
  cases ρ.getD i .no <;> rfl
section
variable {ρ : DL.Env} {X : Str → DL.Env → Prop} {QF : Flow → DL.Env → Prop} {QL : List D → DL.Env → Prop}
end
section
variable {ρ : DL.Env} {X : Str → DL.Env → Prop} {QF : Flow → DL.Env → Prop}
end
@[simp] theorem Wp_mtV (T : String) (g : D → List D → Option D) (fo : M D) (fa : M (List D)) {ρ : DL.Env} {X : Str → DL.Env → Prop} {QD : D → DL.Env → Prop} : Wp (mtV T g fo fa) ρ QD X = Wp fo ρ (fun d ρ1 => tyD T d = true ∧ Wp fa ρ1 (fun xs ρ2 => ∃ z, g d xs = some z ∧ QD z ρ2) X) X := by
  unfold mtV tyM
  simp only [Wp_bind, Wp_ite, Wp_pure, Wp_lift]
/-! a tuple whose last is a container of the def's own -/
@[simp] theorem splitA_sl (i : Nat) : splitA [.sl i] = some ([], i) := rfl
@[simp] theorem splitA_d (x : D) (r : List Ag) : splitA (.d x :: r) = (splitA r).map fun z => (x :: z.1, z.2) := by
  cases r <;> rfl
def spR : Option (List D × Nat) → (List D → Nat → Prop) → Prop
  | some z, P => P z.1 z.2
  | none, _ => False
@[simp] theorem spR_some (xs : List D) (i : Nat) (P : List D → Nat → Prop) : spR (some (xs, i)) P = P xs i := rfl
@[simp] theorem spR_map (o : Option (List D × Nat)) (x : D) (P : List D → Nat → Prop) : spR (o.map fun z => (x :: z.1, z.2)) P = spR o fun xs i => P (x :: xs) i := by cases o <;> rfl
@[simp] theorem Wp_tupT (i : Nat) (fa : M (List Ag)) {ρ : DL.Env} {X : Str → DL.Env → Prop} {QD : D → DL.Env → Prop} : Wp (tupT i fa) ρ QD X = Wp fa ρ (fun ags ρ1 => spR (splitA ags) fun xs j => j = i ∧ ags.length ≤ sizeLine ∧ ∃ c, ρ1[i]? = some (.cell c) ∧ QD (.tup (xs ++ [ocD c])) (ρ1.set i .no)) X := by
  unfold tupT
  rw [Wp_bind]
  congr 1
  funext ags ρ1
  unfold Wp
  cases splitA ags with
  | none => rfl
  | some z =>
    show _ = (z.2 = i ∧ ags.length ≤ sizeLine ∧ ∃ c, ρ1[i]? = some (.cell c) ∧ QD (.tup (z.1 ++ [ocD c])) (ρ1.set i .no))
    by_cases h : z.2 = i ∧ ags.length ≤ sizeLine
    · simp only [h, and_self, if_true]
      cases e : ρ1[i]? with
      | none => simp
      | some s => cases s <;> simp
    · simp only [h, if_false]
      simp
      intro a b
      exact absurd ⟨a, b⟩ h
@[simp] theorem Wp_asgX (n : Nat) (f : M D) (t : TgxF) {ρ : DL.Env} {X : Str → DL.Env → Prop} {QF : Flow → DL.Env → Prop} : Wp (asgX n f t) ρ QF X = Wp f ρ (fun d ρ1 => ∃ z, splitT d = some z ∧ z.1.length + 1 = n ∧ ∃ ρ2, t z.1 z.2 ρ1 = some ρ2 ∧ QF .nx ρ2) X := by
  unfold asgX
  rw [Wp_bind]
  congr 1
  funext d ρ1
  unfold Wp
  cases splitT d with
  | none => simp
  | some z =>
    by_cases h : z.1.length + 1 = n
    · simp only [h, if_true]
      cases e : t z.1 z.2 ρ1 with
      | none => simp [h, e]
      | some s => simp [h, e]
    · simp [h]
end DL
end
section
namespace DL
open PySem PySem.Spec L2 DLS
open PyProof.Rows hiding St
structure KB (K : Kind) : Prop where
  l : SB K.leaps
  r : SB K.rides
  ll : K.leaps.length ≤ 8
  lr : K.rides.length ≤ 8
end DL
end
section
namespace DL
open PySem PySem.Spec L2 DLS
open PyProof.Rows hiding St
end DL
end
section
namespace DL
open PySem PySem.Spec L2 DLS
open PyProof.Rows hiding St
structure KsI (S : List Kd) (n : Nat) (ks : List (Kd × Kind)) : Prop where
  nd : (ks.map (·.1)).Nodup
  ok : ∀ q ∈ ks, KB q.2 ∧ (q.2.crown = 0 ∨ q.2.crown = 1) ∧ q.1 ∈ S
  ki : ∃ K, (kK, K) ∈ ks ∧ K.crown = 1
  len : ks.length ≤ n
  pl : 2 ≤ n → ∃ q ∈ ks, q.2.crown = 0
theorem KsI.add {S : List Kd} {n : Nat} {ks : List (Kd × Kind)} (H : KsI S n ks) {k : Kd} {K : Kind} (hk : k ∉ S) (b : KB K) (c : K.crown = 0 ∨ K.crown = 1) (hp : 2 ≤ n ∨ K.crown = 0 := by omega) : KsI (k :: S) (n + 1) (ks ++ [(k, K)]) ∧ k ∉ ks.map (·.1) := by
  have hn : k ∉ ks.map (·.1) := fun z => by
    obtain ⟨q, hq, e⟩ := List.mem_map.mp z
    exact hk (e ▸ (H.ok q hq).2.2)
  refine ⟨⟨?_, ?_, ?_, ?_, fun _ => ?_⟩, hn⟩
  · rw [List.map_append, List.nodup_append]
    refine ⟨H.nd, by simp, fun a ha b hb => ?_⟩
    simp at hb
    subst hb
    exact fun z => hn (z ▸ ha)
  · intro q hq
    rcases List.mem_append.mp hq with hq | hq
    · exact ⟨(H.ok q hq).1, (H.ok q hq).2.1, List.mem_cons_of_mem _ (H.ok q hq).2.2⟩
    · rw [List.mem_singleton.mp hq]
      exact ⟨b, c, List.mem_cons_self⟩
  · obtain ⟨K0, h1, h2⟩ := H.ki
    exact ⟨K0, List.mem_append.mpr (.inl h1), h2⟩
  · rw [List.length_append]
    have := H.len
    simp
    omega
  · rcases hp with hp | hp
    · obtain ⟨q, hq, e⟩ := H.pl hp
      exact ⟨q, List.mem_append.mpr (.inl hq), e⟩
    · exact ⟨(k, K), List.mem_append.mpr (.inr (List.mem_singleton.mpr rfl)), hp⟩
structure PB (p : Parts) : Prop where
  h1 : 1 ≤ p.h
  h4 : p.h ≤ 4
  w2 : 2 ≤ p.w
  w4 : p.w ≤ 4
  hw : 4 ≤ p.h * p.w
  ho : p.holes.Sublist (boardN p.h p.w)
  hl : p.holes.length ≤ 2
  ks : ∃ S, KsI S 6 p.ks ∧ ∀ k ∈ S, k.i.val < 20
  g0 : p.g0.Sublist (freeN p)
  g1 : p.g1.Sublist (freeN p)
  st : p.stuck = "lost" ∨ p.stuck = "drawn"
structure PB5 (p : Parts) : Prop where
  h1 : 1 ≤ p.h
  h4 : p.h ≤ 5
  w2 : 2 ≤ p.w
  w4 : p.w ≤ 5
  hw : 4 ≤ p.h * p.w
  ho : p.holes.Sublist (boardN p.h p.w)
  hl : p.holes.length ≤ 2
  ks : ∃ S, KsI S 6 p.ks ∧ ∀ k ∈ S, k.i.val < 20
  g0 : p.g0.Sublist (freeN p)
  g1 : p.g1.Sublist (freeN p)
  st : p.stuck = "lost" ∨ p.stuck = "drawn"
theorem PB.to5 {p : Parts} (H : PB p) : PB5 p := ⟨H.h1, Nat.le_trans H.h4 (by decide), H.w2, Nat.le_trans H.w4 (by decide), H.hw, H.ho, H.hl, H.ks, H.g0, H.g1, H.st⟩
section
variable {S Kk Mo : D} {b : Int} {h w : Nat} {X : Str → DL.Env → Prop}
end
end DL
end
section
namespace DL
open PySem PySem.Spec L2 DLS
open PyProof.Rows hiding St
theorem filt_len {α : Type} (q : α → Bool) : ∀ l : List α, (l.filter q).length + (l.filter fun x => !q x).length = l.length
  | [] => rfl
  | a :: l => by
    have := filt_len q l
    cases h : q a <;> simp [List.filter_cons, h] <;> omega
section
variable {p : Parts}
theorem PB5.yin (H : PB5 p) : YIn p.h p.w p.holes p.ks p.g0 p.g1 p.stuck := by
  have h1 := H.h1; have h4 := H.h4; have w2 := H.w2; have w4 := H.w4
  have rb := rising_board p.h p.w (by omega) (by omega)
  have bl := board_le (h := p.h) (w := p.w) (by omega) (by omega)
  obtain ⟨S, K, _⟩ := H.ks
  refine ⟨by omega, by omega, by omega, by omega, H.st, pw_sub rb H.ho, fun c hc => board_in (H.ho.subset hc), ?_, K.len, K.nd, ?_, ?_, by have := H.hl; omega⟩
  · obtain ⟨K0, hk, _⟩ := K.ki
    exact List.length_pos_of_mem hk
  · intro q hq
    obtain ⟨b, c, _⟩ := K.ok q hq
    refine ⟨?_, by have := b.ll; omega, by have := b.lr; omega⟩
    unfold okKind stepsAll sides01
    have sa : (q.2.leaps ++ q.2.rides).all isStep = true := List.all_eq_true.mpr fun s hs => by
      rcases List.mem_append.mp hs with hs | hs
      · exact b.l.st s hs
      · exact b.r.st s hs
    simp only [b.l.ri, b.r.ri, sa, c, decide_true, Bool.and_self]
  · intro g hg
    have gs : g.Sublist (freeN p) := by
      rcases hg with rfl | rfl
      · exact H.g0
      · exact H.g1
    have fs : (freeN p).Sublist (boardN p.h p.w) := List.filter_sublist
    refine ⟨pw_sub rb (gs.trans fs), by have := (gs.trans fs).length_le; omega, fun c hc => ?_⟩
    have hf := gs.subset hc
    unfold freeN at hf
    rw [List.mem_filter] at hf
    rw [board_in hf.1, hf.2]; rfl
theorem PB.yin (H : PB p) : YIn p.h p.w p.holes p.ks p.g0 p.g1 p.stuck := H.to5.yin
theorem PB5.good (H : PB5 p) : YGood (yardOf p) := H.yin.good
theorem PB.good (H : PB p) : YGood (yardOf p) := H.yin.good
theorem PB.small (H : PB p) : Small (yardOf p) := ⟨by show (0 : Int) ≤ p.h; omega, by have := H.h4; show (p.h : Int) ≤ 4; omega, by show (0 : Int) ≤ p.w; omega, by have := H.w4; show (p.w : Int) ≤ 4; omega⟩
theorem PB5.free (H : PB5 p) : 2 ≤ (freeN p).length ∧ (freeN p).length ≤ 25 := by
  have bl := boardN_len p.h p.w
  have h1 := H.h1; have h4 := H.h4; have w2 := H.w2; have w4 := H.w4; have hw := H.hw
  have up : p.h * p.w ≤ 5 * 5 := Nat.mul_le_mul h4 w4
  have nd := rising_nodup (rising_board p.h p.w (by omega) (by omega))
  refine ⟨?_, ?_⟩
  · have hs : ((boardN p.h p.w).filter fun c => decide (c ∈ p.holes)).length ≤ p.holes.length := nodup_len (nd.sublist List.filter_sublist) fun x hx => by simpa using (List.mem_filter.mp hx).2
    have hl := H.hl
    have := filt_len (fun c => decide (c ∈ p.holes)) (boardN p.h p.w)
    unfold freeN
    omega
  · have : (freeN p).length ≤ (boardN p.h p.w).length := List.length_filter_le _ _
    omega
theorem parts_look5 (H : PB5 p) {k : Kd} (hk : k ∈ p.ks.map (·.1)) : ∃ K, lookK (yardOf p).kinds k = some K ∧ (k, K) ∈ p.ks := by
  obtain ⟨⟨k', K⟩, hq, rfl⟩ := List.mem_map.mp hk
  refine ⟨K, ?_, hq⟩
  show lookK (ordK p.ks) k' = some K
  rw [lookK_ord H.yin.nd]
  exact lookK_mem H.yin.nd hq
structure PIb (p : Parts) (k : Nat) (F : List Cell) (P : List Piece) : Prop where
  len : P.length = k
  perm : (P.map (·.cell) ++ F).Perm (freeN p)
  side : ∀ q ∈ P, q.side = 0 ∨ q.side = 1
  kd : ∀ q ∈ P, q.kd ∈ p.ks.map (·.1)
  k0 : 1 ≤ k → ∃ q ∈ P, q.kd = kK
theorem PIb.add {k : Nat} {F : List Cell} {P : List Piece} (H : PIb p k F P) (i : Nat) (hi : i < F.length) (sd : Int) (kd : Kd) (h1 : sd = 0 ∨ sd = 1) (h2 : kd ∈ p.ks.map (·.1)) (h3 : k = 0 → kd = kK) : PIb p (k + 1) (F.eraseIdx i) (P ++ [⟨F[i], sd, kd⟩]) := by
  refine ⟨by rw [List.length_append, H.len]; rfl, ?_, ?_, ?_, ?_⟩
  · rw [List.map_append]
    refine List.Perm.trans ?_ H.perm
    rw [List.append_assoc]
    exact List.Perm.append_left _ (erase_perm F i hi)
  · intro q hq
    rcases List.mem_append.mp hq with hq | hq
    · exact H.side q hq
    · rw [List.mem_singleton.mp hq]; exact h1
  · intro q hq
    rcases List.mem_append.mp hq with hq | hq
    · exact H.kd q hq
    · rw [List.mem_singleton.mp hq]; exact h2
  · intro _
    by_cases z : k = 0
    · exact ⟨⟨F[i], sd, kd⟩, by simp, h3 z⟩
    · obtain ⟨q, hq, e⟩ := H.k0 (by omega)
      exact ⟨q, by simp [hq], e⟩
theorem PIb.pos5 (H : PB5 p) {k : Nat} {F : List Cell} {P : List Piece} (hp : PIb p k F P) (h1 : 1 ≤ k) (h10 : k ≤ 10) (t : Int) (tn : t = 0 ∨ t = 1) : isPos (yardOf p) ⟨t, srtE P⟩ = true := by
  have rb := rising_board p.h p.w (by have := H.h4; omega) (by have := H.w4; omega)
  have ndF : (freeN p).Nodup := (rising_nodup rb).sublist List.filter_sublist
  have nd := hp.perm.nodup_iff.mpr ndF
  have fr : ∀ q ∈ P, isFree (yardOf p) q.cell = true := fun q hq => by
    have : q.cell ∈ freeN p := hp.perm.mem_iff.mp (List.mem_append.mpr (.inl (List.mem_map.mpr ⟨q, hq, rfl⟩)))
    unfold freeN at this
    rw [List.mem_filter] at this
    have bi := board_in this.1
    unfold isFree onBoard
    show (_ && !decide (q.cell ∈ p.holes)) = true
    rw [this.2, Bool.and_true]
    exact bi
  refine IsPos.mk' tn (by rw [hp.len]; exact h1) (by rw [hp.len]; exact h10) ?_ (List.nodup_append.mp nd).1 ?_
  · intro q hq
    obtain ⟨K, hK, _⟩ := parts_look5 H (hp.kd q hq)
    exact ⟨fr q hq, hp.side q hq, by rw [hK]; rfl⟩
  · obtain ⟨q, hq, e⟩ := hp.k0 h1
    refine ⟨q, hq, hp.side q hq, ?_⟩
    obtain ⟨S, KI, _⟩ := H.ks
    obtain ⟨K0, hK0, c0⟩ := KI.ki
    obtain ⟨K, hK, hin⟩ := parts_look5 H (hp.kd q hq)
    unfold crownOf
    rw [hK]
    have lk := lookK_mem KI.nd hK0
    have lk2 := lookK_mem KI.nd hin
    dsimp only at lk lk2
    rw [e] at lk2
    rw [lk] at lk2
    cases lk2
    exact c0
theorem PIb.pos (H : PB p) {k : Nat} {F : List Cell} {P : List Piece} (hp : PIb p k F P) (h1 : 1 ≤ k) (h10 : k ≤ 10) (t : Int) (tn : t = 0 ∨ t = 1) : isPos (yardOf p) ⟨t, srtE P⟩ = true := hp.pos5 H.to5 h1 h10 t tn
end
end DL
end
section
namespace DL
open PySem PySem.Spec L2 DLS
open PyProof.Rows hiding St
section
variable {p : Parts} {S Kk Mo : D} {b : Int} {X : Str → DL.Env → Prop}
end
end DL
end
section
namespace DL
open PySem PySem.Spec L2 DLS
open PyProof.Rows hiding St
/-! ### the program told anew -/
section
variable {p : Parts} {ps : List Piece} {q : Piece}
variable {X : Str → DL.Env → Prop} {QF : Flow → DL.Env → Prop}
end
end DL
end
section
namespace DL
open PySem PySem.Spec L2 DLS
open PyProof.Rows hiding St
section
variable {p : Parts} {q : Pos}
end
end DL
end
section
namespace DL
open PySem PySem.Spec L2 DLS
open PyProof.Rows hiding St
/-- race_ -/
structure RB (p : Parts) : Prop where
  pb : PB p
section
variable {S : D} {b : Int} {X : Str → DL.Env → Prop}
/-- what a script begins with -/
structure Beg (p : Parts) (q : Pos) : Prop where
  pb : PB p
  si : Sit (yardOf p) q
  l4 : q.ps.length ≤ 4
theorem Beg.after {p : Parts} {q : Pos} (B : Beg p q) {m : Move} (h : m ∈ movesOf (yardOf p) q) : Beg p (afterOf q m) := by
  refine ⟨B.pb, after_sit B.si h, ?_⟩
  have : (afterOf q m).ps.length ≤ q.ps.length := by
    show (srtE (q.ps.flatMap (goPiece m))).length ≤ _
    rw [(srtE_perm _).length_eq]
    have := flat_len (goPiece m) 1 q.ps fun z _ => goPiece_len _ _
    omega
  have := B.l4
  omega
end
end DL
end
section
namespace DL
open PySem PySem.Spec L2 DLS
open PyProof.Rows hiding St
/-! ### positions that can be come to: a closed set -/
/-- a position and a number of moves -/
structure PK where
  q : Pos
  n : Int
  deriving DecidableEq
instance : Kl PK where
  nk := fun p => .tup [Kl.nk p.q, Kl.nk p.n]
  inj := fun a b h => by
    injection h with h
    injection h with h1 h
    injection h with h2 h
    obtain ⟨a1, a2⟩ := a
    obtain ⟨b1, b2⟩ := b
    have e1 : a1 = b1 := Kl.inj _ _ h1
    have e2 : a2 = b2 := Kl.inj _ _ h2
    rw [e1, e2]
  ok := fun a => by simp [okN, okNs, Kl.ok]
  dp := 5
  dep := fun a => by
    have h1 : (Kl.nk a.q).depth ≤ 4 := Kl.dep a.q
    have h2 : (Kl.nk a.n).depth ≤ 0 := Kl.dep a.n
    simp only [NestedKey.depth, NestedKey.depthAll]
    omega
  le := by decide
  alk := fun a b => alike2 (Kl.alk a.q b.q) (Kl.alk a.n b.n)
  nn := fun _ => rfl
  tn := .inl fun _ => rfl
/-- a set of good situations closed under the moves -/
structure Cl (y : Yd) (A : List Pos) : Prop where
  si : ∀ q ∈ A, Sit y q
  go : ∀ q ∈ A, ∀ m ∈ movesOf y q, afterOf q m ∈ A
  le : A.length ≤ 420000
end DL
end
section
namespace DL
open PySem PySem.Spec L2 DLS
open PyProof.Rows hiding St
/-! ### who wins, and what was found is known -/
def winsOf (y : Yd) (s : Int) : Nat → Pos → Bool
  | 0, p => decide (DL.verdict y p = .won s)
  | n + 1, p => if DL.verdict y p = .non then (if p.turn = s then (movesOf y p).any fun m => winsOf y s n (afterOf p m) else (movesOf y p).all fun m => winsOf y s n (afterOf p m)) else decide (DL.verdict y p = .won s)
/-! the dict -/
abbrev KN := List (PK × Bool)
/-- what is known is right -/
structure Memo (y : Yd) (s : Int) (A : List Pos) (kn : KN) : Prop where
  nd : (kn.map (·.1)).Nodup
  ok : ∀ e ∈ kn, e.1.q ∈ A ∧ 0 ≤ e.1.n ∧ e.1.n ≤ 8 ∧ e.2 = winsOf y s e.1.n.toNat e.1.q
theorem Memo.nil {y : Yd} {s : Int} {A : List Pos} : Memo y s A [] := ⟨List.nodup_nil, by simp⟩
theorem Memo.len {y : Yd} {s : Int} {A : List Pos} {kn : KN} (M : Memo y s A kn) (hA : A.length ≤ 420000) : kn.length ≤ 4000000 := by
  have h : (kn.map (·.1)).length ≤ (A.flatMap fun q => ([0, 1, 2, 3, 4, 5, 6, 7, 8] : List Int).map fun n => (⟨q, n⟩ : PK)).length := nodup_len M.nd fun k hk => by
    obtain ⟨e, he, rfl⟩ := List.mem_map.mp hk
    obtain ⟨h1, h2, h3, _⟩ := M.ok e he
    refine List.mem_flatMap.mpr ⟨e.1.q, h1, List.mem_map.mpr ⟨e.1.n, ?_, rfl⟩⟩
    simp only [List.mem_cons, List.not_mem_nil, or_false]
    omega
  have l : ∀ A : List Pos, (A.flatMap fun q => ([0, 1, 2, 3, 4, 5, 6, 7, 8] : List Int).map fun n => (⟨q, n⟩ : PK)).length = A.length * 9 := by
    intro A
    induction A with
    | nil => rfl
    | cons a A ih => rw [List.flatMap_cons, List.length_append, ih, List.length_cons, Nat.succ_mul]; simp; omega
  rw [l, List.length_map] at h
  omega
theorem Memo.add {y : Yd} {s : Int} {A : List Pos} {kn : KN} (M : Memo y s A kn) {q : Pos} {n : Nat} (hq : q ∈ A) (hn : n ≤ 8) (h : (⟨q, n⟩ : PK) ∉ kn.map (·.1)) : Memo y s A (kn ++ [(⟨q, n⟩, winsOf y s n q)]) := by
  refine ⟨?_, ?_⟩
  · rw [List.map_append, List.nodup_append]
    refine ⟨M.nd, by simp, fun a ha b hb => ?_⟩
    simp at hb
    subst hb
    exact fun z => h (z ▸ ha)
  · intro e he
    rcases List.mem_append.mp he with he | he
    · exact M.ok e he
    · rw [List.mem_singleton.mp he]
      exact ⟨hq, by show (0 : Int) ≤ n; omega, by show (n : Int) ≤ 8; omega, by show _ = winsOf y s ((n : Int)).toNat q; rw [Int.toNat_natCast]⟩
end DL
end
section
namespace DL
open PySem PySem.Spec L2 DLS
open PyProof.Rows hiding St
section
variable {y : Yd} {s : Int} {A : List Pos} {X : Str → DL.Env → Prop} {QL : List D → DL.Env → Prop}
end
end DL
end
section
namespace DL
open PySem PySem.Spec L2 DLS
open PyProof.Rows hiding St
section
variable {p : Parts} {s : Int} {A : List Pos} {X : Str → DL.Env → Prop} {QL : List D → DL.Env → Prop}
end
end DL
end
section
namespace DL
open PySem PySem.Spec L2 DLS
open PyProof.Rows hiding St
section
variable {y : Yd} {s : Int} {A : List Pos} {g : D}
end
end DL
end
section
namespace DL
open PySem PySem.Spec L2 DLS
open PyProof.Rows hiding St
/-! ### who wins: plain laws -/
section
variable {y : Yd} {s : Int}
end
end DL
end
section
namespace DL
open PySem PySem.Spec L2 DLS
open PyProof.Rows hiding St
section
variable {y : Yd} {A : List Pos}
end
end DL
end
section
namespace DL
open PySem PySem.Spec L2 DLS
open PyProof.Rows hiding St
section
variable {p : Parts} {A : List Pos}
end
end DL
end
section
namespace DL
open PySem PySem.Spec L2 DLS
open PyProof.Rows hiding St
/-! ### how a law of this family begins -/
section
variable {tl : DL.Env} {QF : Flow → DL.Env → Prop} {X : Str → DL.Env → Prop}
end
end DL
end
section
namespace DL
open PySem PySem.Spec L2 DLS
open PyProof.Rows hiding St
/-! ### trees -/
inductive Lf where
  | won | not | lost
  deriving DecidableEq
def Lf.str : Lf → Str
  | .won => "won"
  | .not => "not"
  | .lost => "lost"
inductive Tr where
  | leaf (l : Lf)
  | mv (m : Move) (t : Tr)
  | al (rs : List (Move × Tr))
  | ev (rs : List (Move × Tr))
  | odd (i : Nat) (m : Move)
mutual
def encT : Tr → D
  | .leaf l => .tup [.str l.str]
  | .mv m t => .tup [.str "move", enc m, encT t]
  | .al rs => .tup [.str "all", .lst (encRs rs)]
  | .ev rs => .tup [.str "every", .lst (encRs rs)]
  | .odd 0 _ => .tup []
  | .odd 1 _ => .tup [.str "won", .int 1]
  | .odd _ m => .tup [.str "move", enc m]
def encRs : List (Move × Tr) → List D
  | [] => []
  | r :: rs => encR r :: encRs rs
def encR : Move × Tr → D
  | (m, t) => .tup [enc m, encT t]
end
/-- no higher than n, no rows of more than 1000 -/
inductive TB : Nat → Tr → Prop
  | leaf {n : Nat} (l : Lf) : TB n (.leaf l)
  | mv {n : Nat} (m : Move) {t : Tr} : TB n t → TB (n + 1) (.mv m t)
  | al {n : Nat} {rs : List (Move × Tr)} : rs.length ≤ 1000 → (∀ r ∈ rs, TB n r.2) → TB (n + 1) (.al rs)
  | ev {n : Nat} {rs : List (Move × Tr)} : rs.length ≤ 1000 → (∀ r ∈ rs, TB n r.2) → TB (n + 1) (.ev rs)
  | odd {n : Nat} (i : Nat) (m : Move) : TB n (.odd i m)
theorem TB.mono {n m : Nat} {t : Tr} (h : TB n t) (hm : n ≤ m) : TB m t := by
  induction h generalizing m with
  | leaf l => exact .leaf l
  | mv a h ih =>
    obtain ⟨m, rfl⟩ : ∃ k, m = k + 1 := ⟨m - 1, by omega⟩
    exact .mv a (ih (by omega))
  | al l h ih =>
    obtain ⟨m, rfl⟩ : ∃ k, m = k + 1 := ⟨m - 1, by omega⟩
    exact .al l fun r hr => ih r hr (by omega)
  | ev l h ih =>
    obtain ⟨m, rfl⟩ : ∃ k, m = k + 1 := ⟨m - 1, by omega⟩
    exact .ev l fun r hr => ih r hr (by omega)
  | odd i a => exact .odd i a
theorem encRs_map : ∀ rs : List (Move × Tr), encRs rs = rs.map encR
  | [] => by rw [encRs]; rfl
  | r :: rs => by rw [encRs, encRs_map rs]; rfl
theorem encR_eq (r : Move × Tr) : encR r = .tup [enc r.1, encT r.2] := by obtain ⟨m, t⟩ := r; rw [encR]
theorem encT_leaf (l : Lf) : encT (.leaf l) = .tup [.str l.str] := by rw [encT]
theorem encT_mv (m : Move) (t : Tr) : encT (.mv m t) = .tup [.str "move", enc m, encT t] := by rw [encT]
theorem encT_al (rs : List (Move × Tr)) : encT (.al rs) = .tup [.str "all", .lst (rs.map encR)] := by rw [encT, encRs_map]
theorem encT_ev (rs : List (Move × Tr)) : encT (.ev rs) = .tup [.str "every", .lst (rs.map encR)] := by rw [encT, encRs_map]
theorem odd_enc (i : Nat) (m : Move) : encT (.odd i m) = .tup [] ∨ encT (.odd i m) = .tup [.str "won", .int 1] ∨ encT (.odd i m) = .tup [.str "move", enc m] := by
  match i with
  | 0 => left; rw [encT]
  | 1 => right; left; rw [encT]
  | i + 2 => right; right; rw [encT]; all_goals simp
theorem lf_ok (l : Lf) : layD (.str l.str) = true := by cases l <;> kernel_rfl
theorem dp_move (m : Move) : dpD (enc m) ≤ 2 := by
  unfold dpD enc
  rw [dep_nk]
  exact Kl.dep m
theorem lay_move (m : Move) : layD (enc m) = true := layD_of (okD_enc m)
theorem rows_lay {n : Nat} {rs : List (Move × Tr)} (hr : ∀ r ∈ rs, layD (encT r.2) = true ∧ dpD (encT r.2) ≤ 3 * n + 3) : layD (.lst (rs.map encR)) = true ∧ dpD (.lst (rs.map encR)) ≤ 3 * n + 5 := by
  constructor
  · rw [layD_lst, List.all_map, List.all_eq_true]
    intro r hm
    show layD (encR r) = true
    rw [encR_eq, layD_tup]
    simp [(hr r hm).1, lay_move]
  · refine dpD_lst (n := 3 * n + 4) ?_
    intro x hx
    obtain ⟨r, hm, rfl⟩ := List.mem_map.mp hx
    rw [encR_eq]
    refine dpD_tup (n := 3 * n + 3) ?_
    intro x hx
    simp at hx
    have := dp_move r.1
    rcases hx with rfl | rfl
    · omega
    · exact (hr r hm).2
theorem lay_mo : layD (.str "move") = true := by kernel_rfl
theorem lay_al : layD (.str "all") = true := by kernel_rfl
theorem lay_ev : layD (.str "every") = true := by kernel_rfl
theorem lay_wo : layD (.str "won") = true := by kernel_rfl
theorem tree_lay {n : Nat} {t : Tr} (h : TB n t) : layD (encT t) = true ∧ dpD (encT t) ≤ 3 * n + 3 := by
  induction h with
  | leaf l =>
    rw [encT_leaf, layD_tup]
    refine ⟨by simp [lf_ok], ?_⟩
    have := @dpD_tup [.str l.str] 0 (by simp)
    omega
  | @mv n m t h ih =>
    have d := dp_move m
    rw [encT_mv, layD_tup]
    refine ⟨by simp [ih.1, lay_move, lay_mo], ?_⟩
    have := @dpD_tup [.str "move", enc m, encT t] (3 * n + 3) (by intro x hx; simp at hx; have := ih.2; rcases hx with rfl | rfl | rfl <;> (try simp) <;> omega)
    omega
  | @al n rs l h ih =>
    obtain ⟨l1, l2⟩ := rows_lay ih
    rw [encT_al, layD_tup]
    refine ⟨by simp [l1, lay_al], ?_⟩
    have := @dpD_tup [.str "all", .lst (rs.map encR)] (3 * n + 5) (by intro x hx; simp at hx; rcases hx with rfl | rfl <;> (try simp) <;> omega)
    omega
  | @ev n rs l h ih =>
    obtain ⟨l1, l2⟩ := rows_lay ih
    rw [encT_ev, layD_tup]
    refine ⟨by simp [l1, lay_ev], ?_⟩
    have := @dpD_tup [.str "every", .lst (rs.map encR)] (3 * n + 5) (by intro x hx; simp at hx; rcases hx with rfl | rfl <;> (try simp) <;> omega)
    omega
  | odd i m =>
    have d := dp_move m
    rcases odd_enc i m with e | e | e
    · rw [e, layD_tup]
      refine ⟨rfl, ?_⟩
      have := @dpD_tup [] 0 (by simp)
      omega
    · rw [e, layD_tup]
      refine ⟨by simp [lay_wo], ?_⟩
      have := @dpD_tup [.str "won", .int 1] 0 (by simp)
      omega
    · rw [e, layD_tup]
      refine ⟨by simp [lay_move, lay_mo], ?_⟩
      have := @dpD_tup [.str "move", enc m] 2 (by intro x hx; simp at hx; rcases hx with rfl | rfl <;> (try simp) <;> omega)
      omega
theorem tree_ok {t : Tr} {n : Nat} (h : TB n t) (hn : n ≤ 20) : okD (encT t) = true := by
  obtain ⟨h1, h2⟩ := tree_lay h
  exact okD_of h1 (by omega)
def isLeaf (l : Lf) : Tr → Bool
  | .leaf k => decide (k = l)
  | _ => false
theorem leaf_ok (l : Lf) : okD (.tup [.str l.str]) = true := by rw [← encT_leaf]; exact tree_ok (n := 0) (.leaf l) (by omega)
theorem lf_inj (k l : Lf) : decide (k.str = l.str) = decide (k = l) := by cases k <;> cases l <;> rfl
theorem eqv_len {xs ys : List D} (h : xs.length ≠ ys.length) : eqvD (.tup xs) (.tup ys) = false := by rw [eqv_tup]; simp [h]
theorem eqv_leaf (l : Lf) (t : Tr) : eqvD (encT t) (.tup [.str l.str]) = isLeaf l t := by
  cases t with
  | leaf k =>
    rw [encT_leaf, eqv_tup]
    have : eqvD (.str k.str) (.str l.str) = decide (k = l) := by rw [eqv_str, lf_inj]
    simp [this, isLeaf]
  | mv m t => rw [encT_mv, eqv_len (by simp)]; rfl
  | al rs => rw [encT_al, eqv_len (by simp)]; rfl
  | ev rs => rw [encT_ev, eqv_len (by simp)]; rfl
  | odd i m => rcases odd_enc i m with e | e | e <;> rw [e, eqv_len (by simp)] <;> rfl
theorem eq_leaf {l : Lf} {t : Tr} {n : Nat} (h : TB n t) (hn : n ≤ 20) : eqD (encT t) (.tup [.str l.str]) = some (.bl (isLeaf l t)) := by rw [eqD_ok (tree_ok h hn) (leaf_ok l), eqv_leaf]
/-! is it a tree? -/
mutual
def isT (l : Lf) : Tr → Bool
  | .leaf k => decide (k = l)
  | .mv _ t => isT l t
  | .al rs => isTs l rs && !rs.isEmpty
  | .ev _ => false
  | .odd _ _ => false
def isTs (l : Lf) : List (Move × Tr) → Bool
  | [] => true
  | r :: rs => isTr l r && isTs l rs
def isTr (l : Lf) : Move × Tr → Bool
  | (_, t) => isT l t
end
theorem isTs_all (l : Lf) : ∀ rs : List (Move × Tr), isTs l rs = rs.all fun r => isT l r.2
  | [] => by rw [isTs]; rfl
  | (m, t) :: rs => by rw [isTs, isTr, isTs_all l rs]; rfl
theorem isT_leaf (l k : Lf) : isT l (.leaf k) = decide (k = l) := by rw [isT]
theorem isT_mv (l : Lf) (m : Move) (t : Tr) : isT l (.mv m t) = isT l t := by rw [isT]
theorem isT_al (l : Lf) (rs : List (Move × Tr)) : isT l (.al rs) = ((rs.all fun r => isT l r.2) && !rs.isEmpty) := by rw [isT, isTs_all]
theorem isT_ev (l : Lf) (rs : List (Move × Tr)) : isT l (.ev rs) = false := by rw [isT]
theorem isT_odd (l : Lf) (i : Nat) (m : Move) : isT l (.odd i m) = false := by rw [isT]
def is_tree_0 (rec : Fn) : MS := ifM (boolM (op2 eqD (getM 0) (tupM (consM (getM 1) (pureM []))))) (retM (pureM (.bl true))) skipM
def is_tree_1 (rec : Fn) : MS := ifM (andM (boolM (op2 eqD (callD lenG (consM (getM 0) (pureM []))) (pureM (.int 3)))) (boolM (op2 eqD (op2 ixX (getM 0) (pureM (.int 0))) (pureM (.str "move"))))) (retM (callM rec (mdM [false, false] (consA (op2 ixX (getM 0) (pureM (.int 2))) (consA (getM 1) (pureM [])))))) skipM
def is_tree_2_t_c0 (rec : Fn) : M (List D) := compO (itemsGM (op2 ixX (getM 0) (pureM (.int 1)))) (tgN 2) (pureM true) (callM rec (mdM [false, false] (consA (op2 ixX (getM 2) (pureM (.int 1))) (consA (getM 1) (pureM []))))) [2]
def is_tree_2 (rec : Fn) : MS := ifM (andM (boolM (op2 eqD (callD lenG (consM (getM 0) (pureM []))) (pureM (.int 2)))) (andM (boolM (op2 eqD (op2 ixX (getM 0) (pureM (.int 0))) (pureM (.str "all")))) (boolM (op2 gtA (callD lenG (consM (op2 ixX (getM 0) (pureM (.int 1))) (pureM []))) (pureM (.int 0)))))) (retM (callD allD (consM (lstM (is_tree_2_t_c0 rec)) (pureM [])))) skipM
def is_tree_3 (rec : Fn) : MS := retM (pureM (.bl false))
theorem is_tree__eq (n : Nat) : Mi.is_tree (n + 1) = fnM false 3 (seqM (is_tree_0 (Mi.is_tree n)) (seqM (is_tree_1 (Mi.is_tree n)) (seqM (is_tree_2 (Mi.is_tree n)) (is_tree_3 (Mi.is_tree n))))) := rfl
theorem ix0 (a : D) (r : List D) : ixX (.tup (a :: r)) (.int 0) = some a := ixX_tup _ _ _ (by have := atI_nat (a :: r) 0; exact this)
theorem ix1 (a b : D) (r : List D) : ixX (.tup (a :: b :: r)) (.int 1) = some b := ixX_tup _ _ _ (by have := atI_nat (a :: b :: r) 1; exact this)
theorem ix2 (a b c : D) (r : List D) : ixX (.tup (a :: b :: c :: r)) (.int 2) = some c := ixX_tup _ _ _ (by have := atI_nat (a :: b :: c :: r) 2; exact this)
theorem s_mm : eqD (.str "move") (.str "move") = some (.bl true) := by kernel_rfl
theorem s_aa : eqD (.str "all") (.str "all") = some (.bl true) := by kernel_rfl
theorem s_ea : eqD (.str "every") (.str "all") = some (.bl false) := by kernel_rfl
theorem s_wa : eqD (.str "won") (.str "all") = some (.bl false) := by kernel_rfl
theorem s_ma : eqD (.str "move") (.str "all") = some (.bl false) := by kernel_rfl
theorem s_am : eqD (.str "all") (.str "move") = some (.bl false) := by kernel_rfl
theorem s_lm (l : Lf) : eqD (.str l.str) (.str "move") = some (.bl false) := by cases l <;> kernel_rfl
theorem s_la (l : Lf) : eqD (.str l.str) (.str "all") = some (.bl false) := by cases l <;> kernel_rfl
theorem is_tree_ap (l : Lf) {n : Nat} {t : Tr} (h : TB n t) (hn : n ≤ 20) : ∀ {k : Nat}, n < k → Mi.is_tree k [.d (encT t), .d (.str l.str)] = .ok (.bl (isT l t)) [] := by
  have key : ∀ {k : Nat}, n < k → Fp (Mi.is_tree k [.d (encT t), .d (.str l.str)]) (fun d os => d = .bl (isT l t) ∧ os = []) (fun _ _ => False) := by
    have h0 := h
    induction h with
    | leaf j =>
      intro k hk
      obtain ⟨k, rfl⟩ : ∃ m, k = m + 1 := ⟨k - 1, by omega⟩
      have e := eq_leaf (l := l) h0 hn
      rw [encT_leaf] at e
      rw [is_tree__eq, Fp_fnM, encT_leaf, isT_leaf]
      unfold is_tree_0 is_tree_1 is_tree_2 is_tree_3
      have : isLeaf l (.leaf j) = decide (j = l) := rfl
      rw [this] at e
      cases hb : decide (j = l) <;> rw [hb] at e <;> simp [e]
    | @mv n m t h ih =>
      intro k hk
      obtain ⟨k, rfl⟩ : ∃ m, k = m + 1 := ⟨k - 1, by omega⟩
      have e := eq_leaf (l := l) h0 hn
      have ih := ih (by omega) h (k := k) (by omega)
      rw [encT_mv] at e
      have e : eqD (.tup [.str "move", enc m, encT t]) (.tup [.str l.str]) = some (.bl false) := e
      rw [is_tree__eq, Fp_fnM, encT_mv, isT_mv]
      unfold is_tree_0 is_tree_1 is_tree_2 is_tree_3
      generalize encT t = T at *
      generalize enc m = ME at *
      simp [e, ix0, ix2, s_mm]
      refine Fp_mono ih ?_
      rintro _ _ ⟨rfl, rfl⟩
      simp
    | @al n rs hl h ih =>
      intro k hk
      obtain ⟨k, rfl⟩ : ∃ m, k = m + 1 := ⟨k - 1, by omega⟩
      have e := eq_leaf (l := l) h0 hn
      rw [encT_al] at e
      have e : eqD (.tup [.str "all", .lst (rs.map encR)]) (.tup [.str l.str]) = some (.bl false) := e
      rw [is_tree__eq, Fp_fnM, encT_al, isT_al]
      have ln : lenG [.lst (rs.map encR)] = some (.int (rs.length : Int)) := by rw [lenG_lst, List.length_map]
      have c : is_tree_2_t_c0 (Mi.is_tree k) [.d (.tup [.str "all", .lst (rs.map encR)]), .d (.str l.str), .no] = .ok ((rs.map fun r => isT l r.2).map D.bl) [.d (.tup [.str "all", .lst (rs.map encR)]), .d (.str l.str), .no] := comp_map (e := encR) (e' := D.bl) rs (fun r => isT l r.2) (by
        generalize rs.map encR = RE
        simp [ix1]) rfl (small_le hl) fun r hr => ⟨[.d (.tup [.str "all", .lst (rs.map encR)]), .d (.str l.str), .d (encR r)], rfl, rfl, rfl, [.d (.tup [.str "all", .lst (rs.map encR)]), .d (.str l.str), .d (encR r)], by
          obtain ⟨d, os, e, rfl, rfl⟩ := Fp_ok' (ih r hr (by omega) (h r hr) (k := k) (by omega))
          rw [encR_eq]
          generalize rs.map encR = RE
          simp [ix1, e], rfl, rfl⟩
      have ad : allD [.lst ((rs.map fun r => isT l r.2).map D.bl)] = some (.bl (rs.all fun r => isT l r.2)) := by
        rw [allD_bls, List.all_map]; rfl
      generalize (rs.map fun r => isT l r.2).map D.bl = BL at *
      unfold is_tree_0 is_tree_1 is_tree_2 is_tree_3
      by_cases hz : rs = []
      · subst hz
        rw [List.map_nil] at e
        simp [e, ix0, ix1, s_aa]
      · have gp : (0 : Int) < (rs.length : Int) := by
          have := List.length_pos_iff.mpr hz
          omega
        have em : rs.isEmpty = false := by cases rs <;> simp at hz ⊢
        generalize (rs.length : Int) = rl at *
        generalize rs.map encR = RE at *
        simp [-lenG_lst, e, ix0, ix1, s_aa, ln, gp, Wp_of c, ad, em]
    | @ev n rs hl h ih =>
      intro k hk
      obtain ⟨k, rfl⟩ : ∃ m, k = m + 1 := ⟨k - 1, by omega⟩
      have e := eq_leaf (l := l) h0 hn
      rw [encT_ev] at e
      have e : eqD (.tup [.str "every", .lst (rs.map encR)]) (.tup [.str l.str]) = some (.bl false) := e
      rw [is_tree__eq, Fp_fnM, encT_ev, isT_ev]
      unfold is_tree_0 is_tree_1 is_tree_2 is_tree_3
      generalize rs.map encR = RE at *
      simp [e, ix0, s_ea]
    | odd i m =>
      intro k hk
      obtain ⟨k, rfl⟩ : ∃ m, k = m + 1 := ⟨k - 1, by omega⟩
      have e := eq_leaf (l := l) h0 hn
      have lf : isLeaf l (.odd i m) = false := rfl
      rw [lf] at e
      rw [is_tree__eq, Fp_fnM, isT_odd]
      unfold is_tree_0 is_tree_1 is_tree_2 is_tree_3
      rcases odd_enc i m with eo | eo | eo
      · rw [eo] at e ⊢
        simp [e]
      · rw [eo] at e ⊢
        simp [e, ix0, s_wa]
      · rw [eo] at e ⊢
        generalize enc m = ME at *
        simp [e, ix0, s_ma]
  intro k hk
  obtain ⟨_, _, e, rfl, rfl⟩ := Fp_ok' (key hk)
  exact e
end DL
end
section
namespace DL
open PySem PySem.Spec L2 DLS
open PyProof.Rows hiding St
/-! ### least and greatest of whole numbers; the least number by the moves -/
abbrev iN (n : Nat) : D := .int (n : Int)
theorem ints_iN : ∀ L : List Nat, intsOf (L.map iN) = some (L.map fun (n : Nat) => (n : Int))
  | [] => rfl
  | n :: L => by
    show (intsOf (L.map iN)).map (((n : Nat) : Int) :: ·) = _
    rw [ints_iN L]; rfl
theorem max_iN {L : List Nat} (h : L ≠ []) : ∃ k ∈ L, (∀ j ∈ L, j ≤ k) ∧ maxLD [.lst (L.map iN)] = some (iN k) := by
  obtain ⟨z, hz⟩ : ∃ z, maxI (L.map fun (n : Nat) => (n : Int)) = some z := by
    cases L with
    | nil => exact absurd rfl h
    | cons a L => exact ⟨_, rfl⟩
  have ex : ∃ k ∈ L, ∀ j ∈ L, j ≤ k := by
    clear hz z
    induction L with
    | nil => exact absurd rfl h
    | cons a L ih =>
      by_cases e : L = []
      · subst e; exact ⟨a, by simp, by simp⟩
      · obtain ⟨k, hk, hm⟩ := ih e
        by_cases c : k ≤ a
        · exact ⟨a, by simp, fun j hj => by rcases List.mem_cons.mp hj with rfl | hj; exact Nat.le_refl _; exact Nat.le_trans (hm j hj) c⟩
        · exact ⟨k, List.mem_cons_of_mem _ hk, fun j hj => by rcases List.mem_cons.mp hj with rfl | hj; omega; exact hm j hj⟩
  obtain ⟨k, hk, hm⟩ := ex
  have : (k : Int) = z := maxI_uniq hz (List.mem_map.mpr ⟨k, hk, rfl⟩) fun y hy => by
    obtain ⟨j, hj, rfl⟩ := List.mem_map.mp hy
    have := hm j hj
    omega
  refine ⟨k, hk, hm, ?_⟩
  show (intsOf (L.map iN)).bind (fun ns => (maxI ns).map D.int) = _
  rw [ints_iN]
  show (maxI _).map D.int = _
  rw [hz, ← this]; rfl
section
variable {y : Yd} {s : Int} {p : Pos} {n : Nat}
end
end DL
end
section
namespace DL
open PySem PySem.Spec L2 DLS
open PyProof.Rows hiding St
/-! ### what the trees' functions compute -/
mutual
def dpt : Tr → Nat
  | .leaf _ => 0
  | .mv _ t => dpt t + 1
  | .al rs => dptL rs + 1
  | .ev _ => 0
  | .odd _ _ => 0
def dptL : List (Move × Tr) → Nat
  | [] => 0
  | r :: rs => max (dptR r) (dptL rs)
def dptR : Move × Tr → Nat
  | (_, t) => dpt t
end
theorem dpt_leaf (l : Lf) : dpt (.leaf l) = 0 := by rw [dpt]
theorem dpt_mv (m : Move) (t : Tr) : dpt (.mv m t) = dpt t + 1 := by rw [dpt]
theorem dpt_al (rs : List (Move × Tr)) : dpt (.al rs) = dptL rs + 1 := by rw [dpt]
theorem dpt_row {r : Move × Tr} : ∀ {rs : List (Move × Tr)}, r ∈ rs → dpt r.2 ≤ dptL rs
  | x :: rs, h => by
    rw [dptL]
    rcases List.mem_cons.mp h with rfl | h
    · obtain ⟨m, t⟩ := r
      rw [dptR]
      exact Nat.le_max_left _ _
    · exact Nat.le_trans (dpt_row h) (Nat.le_max_right _ _)
theorem dptL_le {n : Nat} : ∀ {rs : List (Move × Tr)}, (∀ r ∈ rs, dpt r.2 ≤ n) → dptL rs ≤ n
  | [], _ => by rw [dptL]; omega
  | x :: rs, h => by
    rw [dptL]
    have h1 := h x List.mem_cons_self
    have h2 := dptL_le (rs := rs) fun r hr => h r (List.mem_cons_of_mem _ hr)
    obtain ⟨m, t⟩ := x
    rw [dptR]
    exact Nat.max_le.mpr ⟨h1, h2⟩
theorem dptL_is : ∀ {rs : List (Move × Tr)} {k : Nat}, k ∈ rs.map (fun r => dpt r.2) → (∀ j ∈ rs.map (fun r => dpt r.2), j ≤ k) → dptL rs = k := fun {rs k} h1 h2 => by
  obtain ⟨r, hr, e⟩ := List.mem_map.mp h1
  have a := dpt_row hr
  have b := dptL_le (n := k) (rs := rs) fun r hr => h2 _ (List.mem_map.mpr ⟨r, hr, rfl⟩)
  omega
def depth_of_0 (rec : Fn) : MS := ifM (boolM (op2 eqD (op2 ixX (getM 0) (pureM (.int 0))) (pureM (.str "move")))) (retM (op2 addD (pureM (.int 1)) (callM rec (mdM [false] (consA (op2 ixX (getM 0) (pureM (.int 2))) (pureM [])))))) skipM
def depth_of_1_t_c0 (rec : Fn) : M (List D) := compO (itemsGM (op2 ixX (getM 0) (pureM (.int 1)))) (tgN 1) (pureM true) (callM rec (mdM [false] (consA (op2 ixX (getM 1) (pureM (.int 1))) (pureM [])))) [1]
def depth_of_1 (rec : Fn) : MS := ifM (boolM (op2 eqD (op2 ixX (getM 0) (pureM (.int 0))) (pureM (.str "all")))) (retM (op2 addD (pureM (.int 1)) (callD maxLD (consM (lstM (depth_of_1_t_c0 rec)) (pureM []))))) skipM
def depth_of_2 (rec : Fn) : MS := retM (pureM (.int 0))
theorem depth_of__eq (n : Nat) : Mi.depth_of (n + 1) = fnM false 2 (seqM (depth_of_0 (Mi.depth_of n)) (seqM (depth_of_1 (Mi.depth_of n)) (depth_of_2 (Mi.depth_of n)))) := rfl
theorem depth_of_ap (l : Lf) {n : Nat} {t : Tr} (h : TB n t) (hT : isT l t = true) : ∀ {k : Nat}, n < k → Mi.depth_of k [.d (encT t)] = .ok (.int (dpt t : Int)) [] := by
  have key : ∀ {k : Nat}, n < k → Fp (Mi.depth_of k [.d (encT t)]) (fun d os => d = .int (dpt t : Int) ∧ os = []) (fun _ _ => False) := by
    have h0 := h
    induction h with
    | leaf j =>
      intro k hk
      obtain ⟨k, rfl⟩ : ∃ m, k = m + 1 := ⟨k - 1, by omega⟩
      rw [depth_of__eq, Fp_fnM, encT_leaf, dpt_leaf]
      unfold depth_of_0 depth_of_1 depth_of_2
      simp [ix0, s_lm, s_la]
    | @mv n m t h ih =>
      intro k hk
      obtain ⟨k, rfl⟩ : ∃ m, k = m + 1 := ⟨k - 1, by omega⟩
      rw [isT_mv] at hT
      have ih := ih hT h (k := k) (by omega)
      rw [depth_of__eq, Fp_fnM, encT_mv, dpt_mv]
      unfold depth_of_0 depth_of_1 depth_of_2
      generalize encT t = T at *
      generalize enc m = ME at *
      simp [ix0, ix2, s_mm]
      refine Fp_mono ih ?_
      rintro _ _ ⟨rfl, rfl⟩
      simp [addD, intD]
      omega
    | @al n rs hl h ih =>
      intro k hk
      obtain ⟨k, rfl⟩ : ∃ m, k = m + 1 := ⟨k - 1, by omega⟩
      rw [isT_al, Bool.and_eq_true, List.all_eq_true] at hT
      rw [depth_of__eq, Fp_fnM, encT_al, dpt_al]
      have c : depth_of_1_t_c0 (Mi.depth_of k) [.d (.tup [.str "all", .lst (rs.map encR)]), .no] = .ok ((rs.map fun r => dpt r.2).map iN) [.d (.tup [.str "all", .lst (rs.map encR)]), .no] := comp_map (e := encR) (e' := iN) rs (fun r => dpt r.2) (by
        generalize rs.map encR = RE
        simp [ix1]) rfl (small_le hl) fun r hr => ⟨[.d (.tup [.str "all", .lst (rs.map encR)]), .d (encR r)], rfl, rfl, rfl, [.d (.tup [.str "all", .lst (rs.map encR)]), .d (encR r)], by
          obtain ⟨d, os, e, rfl, rfl⟩ := Fp_ok' (ih r hr (hT.1 r hr) (h r hr) (k := k) (by omega))
          rw [encR_eq]
          generalize rs.map encR = RE
          simp [ix1, e], rfl, rfl⟩
      have ne : (rs.map fun r => dpt r.2) ≠ [] := by
        have : rs ≠ [] := by rintro rfl; simp at hT
        simp [this]
      obtain ⟨j, hj, hm, mx⟩ := max_iN ne
      rw [dptL_is hj hm]
      have ad : addD (.int 1) (iN j) = some (.int ((j + 1 : Nat) : Int)) := by
        show some (D.int (1 + (j : Int))) = some (D.int ((j + 1 : Nat) : Int))
        rw [show (1 + (j : Int)) = ((j + 1 : Nat) : Int) by omega]
      generalize iN j = jj at *
      generalize ((j + 1 : Nat) : Int) = j1 at *
      generalize (rs.map fun r => dpt r.2).map iN = BL at *
      unfold depth_of_0 depth_of_1 depth_of_2
      generalize rs.map encR = RE at *
      simp [ix0, s_am, s_aa, Wp_of c, mx, ad]
    | ev l h ih => rw [isT_ev] at hT; cases hT
    | odd i m => rw [isT_odd] at hT; cases hT
  intro k hk
  obtain ⟨_, _, e, rfl, rfl⟩ := Fp_ok' (key hk)
  exact e
section
variable {y : Yd} {s : Int}
end
end DL
end
section
/-! trees as texts -/
namespace DL
open PySem PySem.Spec L2 DLS
open PyProof.Rows hiding St
theorem addD_big {a b : List Nat} (h : a.length + b.length ≤ 1000000) : addD (.str (tx a)) (.str (tx b)) = some (.str (tx (a ++ b))) := by
  show (if (tx a).length + (tx b).length ≤ sizeLine then some (D.str (tx a ++ tx b)) else none) = _
  rw [if_pos (by rw [tx_len, tx_len, sizeLine_eq]; omega), tx_app]
/-- a move of small numbers, written -/
def mtL (m : Move) : List Nat := [48 + m.1.1.toNat, 46, 48 + m.1.2.toNat, 45, 48 + m.2.1.toNat, 46, 48 + m.2.2.toNat]
def okM (m : Move) : Prop := (0 ≤ m.1.1 ∧ m.1.1 < 5) ∧ (0 ≤ m.1.2 ∧ m.1.2 < 5) ∧ (0 ≤ m.2.1 ∧ m.2.1 < 5) ∧ (0 ≤ m.2.2 ∧ m.2.2 < 5)
theorem mq_of {m : Move} (h : okM m) : ∃ q : Mq, enc m = mqD q ∧ mtL m = mqL q := by
  obtain ⟨⟨a, b⟩, ⟨c, d⟩⟩ := m
  obtain ⟨⟨h1, h2⟩, ⟨h3, h4⟩, ⟨h5, h6⟩, ⟨h7, h8⟩⟩ := h
  simp only at h1 h2 h3 h4 h5 h6 h7 h8
  refine ⟨(⟨a.toNat, by omega⟩, ⟨b.toNat, by omega⟩, ⟨c.toNat, by omega⟩, ⟨d.toNat, by omega⟩), ?_, rfl⟩
  show D.tup [.tup [.int a, .int b], .tup [.int c, .int d]] = .tup [.tup [.int ((a.toNat : Nat) : Int), .int ((b.toNat : Nat) : Int)], .tup [.int ((c.toNat : Nat) : Int), .int ((d.toNat : Nat) : Int)]]
  rw [Int.toNat_of_nonneg h1, Int.toNat_of_nonneg h3, Int.toNat_of_nonneg h5, Int.toNat_of_nonneg h7]
theorem mv_text {m : Move} (h : okM m) : Mi.move_text [.d (enc m)] = .ok (.str (tx (mtL m))) [] := by
  obtain ⟨q, e1, e2⟩ := mq_of h
  rw [e1, e2]; exact move_text_ap q
theorem mv_read {m : Move} (h : okM m) : Mi.move_in [.d (.str (tx (mtL m)))] = .ok (enc m) [] := by
  obtain ⟨q, e1, e2⟩ := mq_of h
  rw [e1, e2]; exact move_in_ap q
mutual
/-- a tree, written -/
def prT : Tr → List Nat
  | .leaf .won => [33]
  | .leaf _ => [63]
  | .mv m t => 40 :: (mtL m ++ 32 :: (prT t ++ [41]))
  | .al rs => 91 :: (joinL 124 (prRs rs) ++ [93])
  | _ => []
def prRs : List (Move × Tr) → List (List Nat)
  | [] => []
  | r :: rs => prR r :: prRs rs
def prR : Move × Tr → List Nat
  | (m, t) => mtL m ++ 32 :: prT t
end
theorem prRs_map : ∀ rs : List (Move × Tr), prRs rs = rs.map prR
  | [] => by rw [prRs]; rfl
  | r :: rs => by rw [prRs, prRs_map rs]; rfl
theorem prR_eq (r : Move × Tr) : prR r = mtL r.1 ++ 32 :: prT r.2 := by obtain ⟨m, t⟩ := r; rw [prR]
theorem prT_al (rs : List (Move × Tr)) : prT (.al rs) = 91 :: (joinL 124 (rs.map prR) ++ [93]) := by rw [prT, prRs_map]
theorem prT_won : prT (.leaf .won) = [33] := by rw [prT]
theorem prT_not : prT (.leaf .not) = [63] := by rw [prT]; simp
theorem prT_mv (m : Move) (t : Tr) : prT (.mv m t) = 40 :: (mtL m ++ 32 :: (prT t ++ [41])) := by rw [prT]
/-- a tree that is written: leaves won or not, moves of small numbers, at most three rows, no higher than n -/
inductive WT : Nat → Tr → Prop
  | won {n : Nat} : WT n (.leaf .won)
  | not {n : Nat} : WT n (.leaf .not)
  | mv {n : Nat} {m : Move} {t : Tr} : okM m → WT n t → WT (n + 1) (.mv m t)
  | al {n : Nat} {rs : List (Move × Tr)} : 1 ≤ rs.length → rs.length ≤ 3 → (∀ r ∈ rs, okM r.1) → (∀ r ∈ rs, WT n r.2) → WT (n + 1) (.al rs)
/-- how long at most -/
def lenB : Nat → Nat
  | 0 => 1
  | n + 1 => 3 * (lenB n + 9) + 2
theorem lenB_pos : ∀ n, 1 ≤ lenB n
  | 0 => Nat.le_refl _
  | n + 1 => by unfold lenB; omega
theorem tailP_bound (c n : Nat) : ∀ ws : List (List Nat), (∀ w ∈ ws, w.length ≤ n) → (tailP c ws).length ≤ (n + 1) * ws.length
  | [], _ => Nat.le_refl _
  | y :: ys, h => by
    have ih := tailP_bound c n ys fun w hw => h w (by simp [hw])
    have e := h y (by simp)
    simp only [tailP, List.length_append, List.length_cons, Nat.mul_add, Nat.mul_one]; omega
theorem joinL_bound (c n : Nat) {ws : List (List Nat)} (h : ∀ w ∈ ws, w.length ≤ n) : (joinL c ws).length ≤ (n + 1) * ws.length := by
  cases ws with
  | nil => exact Nat.le_refl _
  | cons y ys =>
    have := tailP_bound c n ys fun w hw => h w (by simp [hw])
    have e := h y (by simp)
    simp only [joinL, List.length_append, List.length_cons, Nat.mul_add, Nat.mul_one]; omega
theorem prT_len {n : Nat} {t : Tr} (h : WT n t) : (prT t).length ≤ lenB n := by
  induction h with
  | won => rw [prT_won]; exact lenB_pos _
  | not => rw [prT_not]; exact lenB_pos _
  | @mv n m t _ _ ih =>
    rw [prT_mv]
    simp only [List.length_cons, List.length_append, List.length_nil, lenB]
    have : (mtL m).length = 7 := rfl
    omega
  | @al n rs h1 h3 hm h ih =>
    rw [prT_al]
    have jb := joinL_bound 124 (lenB n + 8) (ws := rs.map prR) (fun w hw => by
      obtain ⟨r, hr, rfl⟩ := List.mem_map.mp hw
      have := ih r hr
      rw [prR_eq]
      simp only [List.length_append, List.length_cons]
      have : (mtL r.1).length = 7 := rfl
      omega)
    rw [List.length_map] at jb
    have : (lenB n + 8 + 1) * rs.length ≤ (lenB n + 8 + 1) * 3 := Nat.mul_le_mul_left _ h3
    simp only [List.length_cons, List.length_append, List.length_nil, lenB]
    omega
theorem s_ln : eqD (.str "not") (.str "won") = some (.bl false) := by kernel_rfl
theorem s_nn : eqD (.str "not") (.str "not") = some (.bl true) := by kernel_rfl
theorem s_ww : eqD (.str "won") (.str "won") = some (.bl true) := by kernel_rfl
theorem s_mw : eqD (.str "move") (.str "won") = some (.bl false) := by kernel_rfl
theorem s_mn : eqD (.str "move") (.str "not") = some (.bl false) := by kernel_rfl
theorem s_aw : eqD (.str "all") (.str "won") = some (.bl false) := by kernel_rfl
theorem s_an : eqD (.str "all") (.str "not") = some (.bl false) := by kernel_rfl
theorem x_ex : ("!" : Str) = tx [33] := by kernel_rfl
theorem x_qu : ("?" : Str) = tx [63] := by kernel_rfl
theorem x_op : ("(" : Str) = tx [40] := by kernel_rfl
theorem x_cl : (")" : Str) = tx [41] := by kernel_rfl
theorem x_bo : ("[" : Str) = tx [91] := by kernel_rfl
theorem x_bc : ("]" : Str) = tx [93] := by kernel_rfl
theorem x_ba : ("|" : Str) = tx [124] := by kernel_rfl
end DL
end
section
/-! trees written -/
namespace DL
open PySem PySem.Spec L2 DLS
open PyProof.Rows hiding St
theorem text_list : ∀ ws : List (List Nat), txtsD (ws.map fun w => D.str (tx w)) = some (ws.map tx)
  | [] => rfl
  | w :: r => by show (txtsD (r.map fun w => D.str (tx w))).map (tx w :: ·) = _; rw [text_list r]; rfl
theorem sum_len (n : Nat) : ∀ ws : List (List Nat), (∀ w ∈ ws, w.length ≤ n) → ((ws.map tx).map (·.length)).sum ≤ n * ws.length
  | [], _ => Nat.le_refl _
  | y :: ys, h => by
    have ih := sum_len n ys fun w hw => h w (by simp [hw])
    have e := h y (by simp)
    simp only [List.map_cons, List.sum_cons, tx_len, List.length_cons, Nat.mul_add, Nat.mul_one]; omega
theorem joinD_big {c : Nat} {ws : List (List Nat)} (n : Nat) (h : ∀ w ∈ ws, w.length ≤ n) (hn : n ≤ 10000) (hz : ws.length ≤ 3) : joinD (.str (tx [c])) [.lst (ws.map fun w => D.str (tx w))] = some (.str (tx (joinL c ws))) := by
  have hs := sum_len n ws h
  have : n * ws.length ≤ 10000 * 3 := Nat.mul_le_mul hn hz
  show (txtsD _).bind _ = _
  rw [text_list]
  show (if _ then some (D.str (Txt.join (tx [c]) (ws.map tx))) else none) = _
  rw [if_pos (by rw [tx_len]; simp only [List.length_map, List.length_cons, List.length_nil]; omega), join_tx]
theorem lenB4 {n : Nat} (h : n ≤ 4) : lenB n ≤ 1242 := by
  have : n = 0 ∨ n = 1 ∨ n = 2 ∨ n = 3 ∨ n = 4 := by omega
  rcases this with rfl | rfl | rfl | rfl | rfl <;> decide
theorem text_of_ap {n : Nat} {t : Tr} (h : WT n t) : n ≤ 4 → ∀ k, n < k → Mi.text_of k [.d (encT t)] = .ok (.str (tx (prT t))) [] := by
  induction h with
  | won =>
    intro _ k hk
    obtain ⟨k, rfl⟩ : ∃ j, k = j + 1 := ⟨k - 1, by omega⟩
    rw [prT_won, encT_leaf, ← x_ex]
    have i0 := ix0 (.str Lf.won.str) []
    have s := s_ww
    show fnM _ _ _ _ = _
    refine fn_run (ρ0 := [.d (.tup [.str "won"]), .no, .no]) (ρ' := [.d (.tup [.str "won"]), .no, .no]) rfl rfl (seq_ret (if_ret (ρ' := [.d (.tup [.str "won"]), .no, .no]) ?_ rfl))
    have i0 : ixX (.tup [.str "won"]) (.int 0) = some (.str "won") := i0
    simp [i0, s]
  | not =>
    intro _ k hk
    obtain ⟨k, rfl⟩ : ∃ j, k = j + 1 := ⟨k - 1, by omega⟩
    rw [prT_not, encT_leaf, ← x_qu]
    have i0 : ixX (.tup [.str "not"]) (.int 0) = some (.str "not") := ix0 (.str Lf.not.str) []
    have s1 := s_ln
    have s2 := s_nn
    show fnM _ _ _ _ = _
    refine fn_run (ρ0 := [.d (.tup [.str "not"]), .no, .no]) (ρ' := [.d (.tup [.str "not"]), .no, .no]) rfl rfl ((seq_nx (if_no (ρ' := [.d (.tup [.str "not"]), .no, .no]) ?_)).trans (seq_ret (if_ret (ρ' := [.d (.tup [.str "not"]), .no, .no]) ?_ rfl)))
    · simp [i0, s1]
    · simp [i0, s2]
  | @mv n m t hm ht ih =>
    intro hn k hk
    obtain ⟨k, rfl⟩ : ∃ j, k = j + 1 := ⟨k - 1, by omega⟩
    have ih := ih (by omega) k (by omega)
    have lt := prT_len ht
    have lb := lenB4 (n := n) (by omega)
    have lm : (mtL m).length = 7 := rfl
    have mt := mv_text hm
    rw [prT_mv, encT_mv]
    have i0 := ix0 (.str "move") [enc m, encT t]
    have i1 := ix1 (.str "move") (enc m) [encT t]
    have i2 := ix2 (.str "move") (enc m) (encT t) []
    have a1 := addD_big (a := [40]) (b := mtL m) (by simp [lm])
    have a2 := addD_big (a := [40] ++ mtL m) (b := [32]) (by simp [lm])
    have a3 := addD_big (a := [40] ++ mtL m ++ [32]) (b := prT t) (by simp [lm]; omega)
    have a4 := addD_big (a := [40] ++ mtL m ++ [32] ++ prT t) (b := [41]) (by simp [lm]; omega)
    have e : 40 :: (mtL m ++ 32 :: (prT t ++ [41])) = [40] ++ mtL m ++ [32] ++ prT t ++ [41] := by simp
    rw [e]
    rw [← x_op] at a1
    rw [← s_blank] at a2
    rw [← x_cl] at a4
    have s1 := s_mw
    have s2 := s_mn
    have s3 := s_mm
    generalize [40] ++ mtL m ++ [32] ++ prT t ++ [41] = L4 at *
    generalize [40] ++ mtL m ++ [32] ++ prT t = L3 at *
    generalize [40] ++ mtL m ++ [32] = L2 at *
    generalize [40] ++ mtL m = L1 at *
    generalize D.tup [.str "move", enc m, encT t] = TT at *
    generalize tx (prT t) = PT at *
    generalize tx (mtL m) = MT at *
    generalize encT t = ET at *
    generalize (enc m : D) = EM at *
    show fnM _ _ _ _ = _
    refine fn_run (ρ0 := [.d TT, .no, .no]) (ρ' := [.d TT, .no, .no]) rfl rfl ((seq_nx (if_no (ρ' := [.d TT, .no, .no]) ?_)).trans ((seq_nx (if_no (ρ' := [.d TT, .no, .no]) ?_)).trans (seq_ret (if_ret (ρ' := [.d TT, .no, .no]) (ρ'' := [.d TT, .no, .no]) ?_ ?_))))
    · simp [i0, s1]
    · simp [i0, s2]
    · simp [i0, s3]
    · simp [i1, i2, mt, ih, a1, a2, a3, a4]
  | @al n rs h1 h3 hm ht ih =>
    intro hn k hk
    obtain ⟨k, rfl⟩ : ∃ j, k = j + 1 := ⟨k - 1, by omega⟩
    have lb := lenB4 (n := n) (by omega)
    have lr : ∀ r ∈ rs, (prR r).length ≤ 1250 := fun r hr => by
      have := prT_len (ht r hr)
      have lm : (mtL r.1).length = 7 := rfl
      rw [prR_eq]; simp only [List.length_append, List.length_cons]; omega
    rw [prT_al, encT_al]
    have i0 := ix0 (.str "all") [.lst (rs.map encR)]
    have i1 := ix1 (.str "all") (.lst (rs.map encR)) []
    have c := comp_map (e := encR) (e' := fun r : Move × Tr => D.str (tx (prR r))) (it := itemsGM (op2 ixX (getM 0) (pureM (.int 1)))) (tg := tgU 2 (tgs1 (tgN 1) (tgs1 (tgN 2) (tgs0)))) (te := op2 addD (op2 addD (callM Mi.move_text (mdM [false] (consA (getM 1) (pureM [])))) (pureM (.str " "))) (callM (Mi.text_of k) (mdM [false] (consA (getM 2) (pureM []))))) (vs := [1, 2]) (ρ := [.d (.tup [.str "all", .lst (rs.map encR)]), .no, .no]) rs id (by
        have ig : itemsG (.lst (rs.map encR)) = some (rs.map encR) := rfl
        generalize D.tup [.str "all", .lst (rs.map encR)] = TT at *
        generalize rs.map encR = L at *
        simp [i1, ig]) rfl (by rw [sizeLine_eq]; omega) (fun r hr => by
      have mt := mv_text (hm r hr)
      have tt := ih r hr (by omega) k (by omega)
      have lt := prT_len (ht r hr)
      have lm : (mtL r.1).length = 7 := rfl
      have a1 := addD_big (a := mtL r.1) (b := [32]) (by simp [lm])
      have a2 := addD_big (a := mtL r.1 ++ [32]) (b := prT r.2) (by simp [lm]; omega)
      have e : prR r = mtL r.1 ++ [32] ++ prT r.2 := by rw [prR_eq]; simp
      rw [← s_blank] at a1
      refine ⟨[.d (.tup [.str "all", .lst (rs.map encR)]), .d (enc r.1), .d (encT r.2)], by rw [encR_eq]; rfl, rfl, rfl, [.d (.tup [.str "all", .lst (rs.map encR)]), .d (enc r.1), .d (encT r.2)], ?_, rfl, rfl⟩
      show _ = Res.ok (D.str (tx (prR r))) [.d (.tup [.str "all", .lst (rs.map encR)]), .d (enc r.1), .d (encT r.2)]
      rw [e]
      generalize D.tup [.str "all", .lst (rs.map encR)] = TT at *
      generalize mtL r.1 ++ [32] ++ prT r.2 = L3 at *
      generalize mtL r.1 ++ [32] = L2 at *
      generalize tx (mtL r.1) = MT at *
      generalize tx (prT r.2) = PT at *
      generalize encT r.2 = ET at *
      generalize (enc r.1 : D) = EM at *
      simp [mt, tt, a1, a2])
    rw [List.map_id] at c
    have jn := joinD_big (c := 124) (ws := rs.map prR) 1250 (fun w hw => by obtain ⟨r, hr, rfl⟩ := List.mem_map.mp hw; exact lr r hr) (by omega) (by simpa using h3)
    have lj := joinL_bound 124 1250 (ws := rs.map prR) (fun w hw => by obtain ⟨r, hr, rfl⟩ := List.mem_map.mp hw; exact lr r hr)
    rw [List.length_map] at lj
    have : (1250 + 1) * rs.length ≤ (1250 + 1) * 3 := Nat.mul_le_mul_left _ h3
    have a1 := addD_big (a := [91]) (b := joinL 124 (rs.map prR)) (by simp only [List.length_cons, List.length_nil]; omega)
    have a2 := addD_big (a := [91] ++ joinL 124 (rs.map prR)) (b := [93]) (by simp only [List.length_append, List.length_cons, List.length_nil]; omega)
    have e : 91 :: (joinL 124 (rs.map prR) ++ [93]) = [91] ++ joinL 124 (rs.map prR) ++ [93] := by simp
    rw [e]
    rw [List.map_map] at jn
    have jn : joinD (.str (tx [124])) [.lst (rs.map fun r => D.str (tx (prR r)))] = some (.str (tx (joinL 124 (rs.map prR)))) := jn
    rw [← x_ba] at jn
    rw [← x_bo] at a1
    rw [← x_bc] at a2
    have s1 := s_aw
    have s2 := s_an
    have s3 := s_am
    generalize [91] ++ joinL 124 (rs.map prR) ++ [93] = L3 at *
    generalize [91] ++ joinL 124 (rs.map prR) = L2 at *
    generalize tx (joinL 124 (rs.map prR)) = L1 at *
    generalize D.tup [.str "all", .lst (rs.map encR)] = TT at *
    generalize (rs.map fun r => D.str (tx (prR r))) = RR at *
    show fnM _ _ _ _ = _
    refine fn_run (ρ0 := [.d TT, .no, .no]) (ρ' := [.d TT, .no, .no]) rfl rfl ((seq_nx (if_no (ρ' := [.d TT, .no, .no]) ?_)).trans ((seq_nx (if_no (ρ' := [.d TT, .no, .no]) ?_)).trans ((seq_nx (if_no (ρ' := [.d TT, .no, .no]) ?_)).trans (ret_ok (ρ' := [.d TT, .no, .no]) ?_))))
    · simp [i0, s1]
    · simp [i0, s2]
    · simp [i0, s3]
    · generalize (compO (itemsGM (op2 ixX (getM 0) (pureM (.int 1)))) (tgU 2 (tgs1 (tgN 1) (tgs1 (tgN 2) (tgs0)))) (pureM true) (op2 addD (op2 addD (callM Mi.move_text (mdM [false] (consA (getM 1) (pureM [])))) (pureM (.str " "))) (callM (Mi.text_of k) (mdM [false] (consA (getM 2) (pureM []))))) [1, 2]) = CC at *
      simp [mtV, tyM_ap', tyD_str, c, jn, a1, a2]
end DL
end
section
namespace DL
open PySem PySem.Spec L2 DLS
open PyProof.Rows hiding St
/-! ### family A's own words -/
section
variable {p : Parts} {ps : List Piece}
end
end DL
end
section
namespace DL
open PySem PySem.Spec L2 DLS
open PyProof.Rows hiding St
/-! ### the ways, told by the law -/
section
variable {y : Yd} {ps : List Piece} {side : Int} {c s : Cell}
end
end DL
end
section
namespace DL
open PySem PySem.Spec L2 DLS
open PyProof.Rows hiding St
/-! ### law_ways -/
def fr (s : Int) : Int := if s = 0 then 1 else -1
section
variable {p : Parts} {q : Pos} {X : Str → DL.Env → Prop} {most : Nat}
structure AFit (p : Parts) (q : Pos) : Prop where
  nd : (p.ks.map (·.1)).Nodup
  sm : Small (yardOf p)
  gy : YGood (yardOf p)
  ip : IsPos (yardOf p) q
end
end DL
end
section
namespace DL
open PySem PySem.Spec L2 DLS
open PyProof.Rows hiding St
section
variable {p : Parts} {q : Pos} {X : Str → DL.Env → Prop} {most : Nat}
end
end DL
end
section
namespace DL
open PySem PySem.Spec L2 DLS
open PyProof.Rows hiding St
section
variable {p : Parts} {q : Pos} {X : Str → DL.Env → Prop}
end
end DL
end
section
namespace DL
open PySem PySem.Spec L2 DLS
open PyProof.Rows hiding St
section
variable {p : Parts} {q : Pos} {X : Str → DL.Env → Prop}
end
end DL
end
section
namespace DL
open PySem PySem.Spec L2 DLS
open PyProof.Rows hiding St
section
variable {p : Parts} {q : Pos}
end
end DL
end
section
/-! numbers in any word -/
namespace DL
open PySem PySem.Spec L2 DLS
open PyProof.Rows hiding St
theorem cut_from_big (l : List Nat) (k : Nat) (h : k ≤ l.length) (hl : l.length ≤ 1000000) : slD (some (k : Int)) none (.str (tx l)) = some (.str (tx (l.drop k))) := by
  show (if (tx _).length ≤ sizeLine then some (D.str (tx (cutL l (some (k : Int)) none))) else none) = _
  rw [if_pos (by rw [tx_len, sizeLine_eq]; omega)]
  congr 2
  unfold cutL
  rw [HT.sIx_nat, show min k l.length = k by omega]
  show tx ((l.drop k).take (l.length - k)) = _
  rw [List.take_of_length_le (by simp)]
theorem cut_to_big (l : List Nat) (k : Nat) (hl : l.length ≤ 1000000) : slD none (some (k : Int)) (.str (tx l)) = some (.str (tx (l.take k))) := by
  show (if (tx _).length ≤ sizeLine then some (D.str (tx (cutL l none (some (k : Int))))) else none) = _
  rw [if_pos (by rw [tx_len, sizeLine_eq]; omega)]
  congr 2
  unfold cutL
  rw [HT.sIx_nat]
  show tx ((l.drop 0).take (min k l.length - 0)) = _
  simp [List.take_eq_take_min]
theorem len_big {l : List Nat} (h : l.length ≤ 1000000) : lenG [.str (tx l)] = some (.int l.length) := by
  have : lenD [.str (tx l)] = some (.int l.length) := by
    show (if (tx l).length ≤ sizeLine then some (D.int (tx l).length) else none) = _
    rw [tx_len, if_pos (by rw [sizeLine_eq]; omega)]
  unfold lenG
  rw [this]; rfl
def figs : List Nat := [48, 49, 50, 51, 52, 53, 54, 55, 56, 57]
theorem x_figs : ("0123456789" : Str) = tx figs := by kernel_rfl
def digitB (c : Nat) : Bool := decide (c ∈ figs)
def nmE (w : List Nat) (s2 s3 : Sl) : DL.Env := [.d (.str (tx w)), .d (.str (tx w)), s2, s3]
theorem nm0 {w : List Nat} (hk : okT w = true) (hl : w.length ≤ 1000000) (h45 : w.head? ≠ some 45) : setM 1 (iteM (boolM (op2 eqD (slM (getM 0) (pureM none) (partM (pureM (.int 1)))) (pureM (.str "-")))) (slM (getM 0) (partM (pureM (.int 1))) (pureM none)) (getM 0)) [.d (.str (tx w)), .no, .no, .no] = .ok .nx (nmE w .no .no) := by
  have c := cut_to_big w 1 hl
  have c : slD none (some 1) (.str (tx w)) = some (.str (tx (w.take 1))) := c
  have ok1 : okT (w.take 1) = true := by
    unfold okT at *
    exact List.all_eq_true.mpr fun x hx => List.all_eq_true.mp hk x (List.mem_of_mem_take hx)
  have e := eqD_s ok1 (b := [45]) rfl
  rw [tx_eq, decide_eq_false (fun z => h45 (by cases w with | nil => simp at z | cons a r => simp at z; rw [z]; rfl)), ← s_dash] at e
  unfold nmE
  generalize tx (w.take 1) = T1 at *
  generalize tx w = S at *
  simp [c, e]
/-- the guard -/
theorem nm_guard {w : List Nat} (hl : w.length ≤ 100000) : (orM (notM (boolM (chainM leA leA (pureM (.int 1)) (callD lenG (consM (getM 1) (pureM []))) (pureM (.int 2))))) (notM (boolM (callD allD (consM (lstM (compO (itemsGM (getM 1)) (tgN 3) (pureM true) (op2 inX (getM 3) (pureM (.str "0123456789"))) [3])) (pureM [])))))) (nmE w .no .no) = .ok (!(decide (1 ≤ w.length ∧ w.length ≤ 2) && w.all digitB)) (nmE w .no .no) := by
  have ln := len_big (l := w) (by omega)
  have c : compO (itemsGM (getM 1)) (tgN 3) (pureM true) (op2 inX (getM 3) (pureM (.str "0123456789"))) [3] (nmE w .no .no) = .ok ((w.map digitB).map D.bl) (nmE w .no .no) :=
    comp_map (e := fun c : Nat => D.str (tx [c])) (e' := D.bl) (it := itemsGM (getM 1)) (tg := tgN 3) (te := op2 inX (getM 3) (pureM (.str "0123456789"))) (vs := [3]) (ρ := nmE w .no .no) w digitB (by
      have ig : itemsG (.str (tx w)) = some (w.map fun c => D.str (tx [c])) := rfl
      unfold nmE
      generalize (w.map fun c => D.str (tx [c])) = L at *
      generalize tx w = S at *
      simp [ig]) rfl (by rw [sizeLine_eq]; omega) (fun c _ => by
      have ii : inX (.str (tx [c])) (.str "0123456789") = some (.bl (digitB c)) := by rw [x_figs]; rfl
      refine ⟨nmE w .no (.d (.str (tx [c]))), rfl, rfl, rfl, nmE w .no (.d (.str (tx [c]))), ?_, rfl, rfl⟩
      unfold nmE
      generalize tx [c] = C at *
      generalize tx w = S at *
      simp [ii])
  have al := allD_bls (w.map digitB)
  rw [all_id] at al
  generalize (compO (itemsGM (getM 1)) (tgN 3) (pureM true) (op2 inX (getM 3) (pureM (.str "0123456789"))) [3]) = CC at *
  unfold nmE at *
  generalize w.all digitB = ab at *
  generalize (w.map digitB).map D.bl = LB at *
  generalize tx w = S at *
  by_cases h1 : 1 ≤ w.length
  · have h1' : (1 : Int) ≤ w.length := by omega
    by_cases h2 : w.length ≤ 2
    · have h2' : (w.length : Int) ≤ 2 := by omega
      simp [ln, h1, h2, h1', h2', c, al]
    · have h2' : ¬ (w.length : Int) ≤ 2 := by omega
      simp [ln, h1, h2, h1', h2']
  · have h1' : ¬ (1 : Int) ≤ w.length := by omega
    simp [ln, h1, h1']
/-- words of figures: a number below a hundred, or refused; one below ten is one sign -/
def chkW (r : FRes) (w : List Nat) : Bool := chkX r || (match r with
  | .ok (.int n) [] => decide (0 ≤ n) && (!decide (n < 5) || (w == [48 + n.toNat]))
  | _ => false)
theorem one_fig : figs.all (fun a => chkW (Mi.number_in [.d (.str (tx [a]))]) [a]) = true := by kernel_rfl
theorem two_fig : figs.all (fun a => figs.all fun b => chkW (Mi.number_in [.d (.str (tx [a, b]))]) [a, b]) = true := by kernel_rfl
theorem chkW_ok {r : FRes} {w : List Nat} (h : chkW r w = true) : r = .exc "BadText" [] ∨ ∃ n : Int, 0 ≤ n ∧ r = .ok (.int n) [] ∧ (n < 5 → w = [48 + n.toNat]) := by
  unfold chkW at h
  rw [Bool.or_eq_true] at h
  rcases h with h | h
  · exact .inl (chkX_ok h)
  · split at h
    · rename_i n
      rw [Bool.and_eq_true, Bool.or_eq_true] at h
      refine .inr ⟨n, of_decide_eq_true h.1, rfl, fun h5 => ?_⟩
      rcases h.2 with h | h
      · rw [decide_eq_true h5] at h; cases h
      · exact eq_of_beq h
    · cases h
/-- number_in of any word without the sign of less -/
theorem number_word {w : List Nat} (hk : okT w = true) (hl : w.length ≤ 100000) (h45 : 45 ∉ w) : Mi.number_in [.d (.str (tx w))] = .exc "BadText" [] ∨ ∃ n : Int, 0 ≤ n ∧ Mi.number_in [.d (.str (tx w))] = .ok (.int n) [] ∧ (n < 5 → w = [48 + n.toNat]) := by
  by_cases hg : (decide (1 ≤ w.length ∧ w.length ≤ 2) && w.all digitB) = true
  · rw [Bool.and_eq_true] at hg
    obtain ⟨h1, h2⟩ := of_decide_eq_true hg.1
    match w, h1, h2, hg.2 with
    | [a], _, _, hd =>
      have ha : a ∈ figs := by simpa [digitB] using hd
      exact chkW_ok (List.all_eq_true.mp one_fig a ha)
    | [a, b], _, _, hd =>
      have hab : a ∈ figs ∧ b ∈ figs := by simpa [digitB] using hd
      exact chkW_ok (List.all_eq_true.mp (List.all_eq_true.mp two_fig a hab.1) b hab.2)
  · left
    have g := nm_guard (w := w) hl
    rw [show (decide (1 ≤ w.length ∧ w.length ≤ 2) && w.all digitB) = false by simpa using hg] at g
    have g0 := nm0 hk (by omega) (w := w) (fun z => h45 (by cases w with | nil => simp at z | cons a r => simp at z; rw [z]; simp))
    unfold Mi.number_in
    refine fn_exc (ρ0 := [.d (.str (tx w)), .no, .no, .no]) (ρ' := nmE w .no .no) rfl rfl ((seq_nx g0).trans (seq_exc ((if_t g).trans rfl)))
end DL
end
section
/-! cells and moves in any word -/
namespace DL
open PySem PySem.Spec L2 DLS
open PyProof.Rows hiding St
theorem join_splitL (c : Nat) : ∀ l : List Nat, joinL c (splitL c l) = l
  | [] => rfl
  | h :: t => by
    have ih := join_splitL c t
    rw [splitL_cons]
    by_cases z : h = c
    · rw [if_pos z]
      cases e : splitL c t with
      | nil => exact absurd e (splitL_ne c t)
      | cons y ys =>
        rw [e] at ih
        show [] ++ tailP c (y :: ys) = _
        show c :: (y ++ tailP c ys) = _
        rw [show y ++ tailP c ys = t from ih, z]
    · rw [if_neg z]
      cases e : splitL c t with
      | nil => exact absurd e (splitL_ne c t)
      | cons y ys =>
        rw [e] at ih
        show ([h] ++ y) ++ tailP c ys = _
        rw [List.append_assoc, show y ++ tailP c ys = t from ih]; rfl
theorem splitO_big {l : List Nat} {c : Nat} (hc : c < 256) (hl : l.length ≤ 1000000) : splitO (.str (tx l)) [.str (tx [c])] = some ((splitL c l).map fun w => D.str (tx w)) := by
  unfold splitO
  simp only
  rw [if_pos ⟨by rw [tx_len]; rfl, by rw [tx_len, sizeLine_eq]; omega⟩, split_tx l hc, List.map_map]; rfl
theorem okT_of {a b : List Nat} (h : okT b = true) (hs : ∀ x ∈ a, x ∈ b) : okT a = true := List.all_eq_true.mpr fun x hx => List.all_eq_true.mp h x (hs x hx)
def ceE (w : List Nat) (s : Sl) : DL.Env := [.d (.str (tx w)), s]
/-- cell_in of any word -/
theorem cell_word {w : List Nat} (hk : okT w = true) (hl : w.length ≤ 100000) (h45 : 45 ∉ w) : Mi.cell_in [.d (.str (tx w))] = .exc "BadText" [] ∨ ∃ a b : Int, 0 ≤ a ∧ 0 ≤ b ∧ Mi.cell_in [.d (.str (tx w))] = .ok (.tup [.int a, .int b]) [] ∧ (a < 5 → b < 5 → w = [48 + a.toNat, 46, 48 + b.toNat]) := by
  have so : splitO (.str (tx w)) [.str "."] = some ((splitL 46 w).map fun v => D.str (tx v)) := by rw [s_dot, splitO_big (by decide) (by omega)]
  have st : setM 1 (lstM (mtVO "str" splitO (getM 0) (consM (pureM (.str ".")) (pureM [])))) (ceE w .no) = .ok .nx (ceE w (.d (.lst ((splitL 46 w).map fun v => D.str (tx v))))) := by
    unfold ceE
    generalize ((splitL 46 w).map fun v => D.str (tx v)) = L at *
    generalize tx w = S at *
    simp [mtVO, tyM_ap', tyD_str, so]
  have jw := join_splitL 46 w
  have ln : lenG [.lst ((splitL 46 w).map fun v => D.str (tx v))] = some (.int (((splitL 46 w).map fun v => D.str (tx v)).length : Nat)) := rfl
  rw [List.length_map] at ln
  by_cases h2 : (splitL 46 w).length = 2
  · obtain ⟨u, v, e⟩ : ∃ u v, splitL 46 w = [u, v] := by
      match hq : splitL 46 w, h2 with
      | [u, v], _ => exact ⟨u, v, rfl⟩
    rw [e] at st ln jw
    have jw : u ++ 46 :: (v ++ []) = w := jw
    rw [List.append_nil] at jw
    have ou := okT_of hk (a := u) (fun x hx => by rw [← jw]; simp [hx])
    have ov := okT_of hk (a := v) (fun x hx => by rw [← jw]; simp [hx])
    have lu : u.length ≤ 100000 := by have := congrArg List.length jw; simp at this; omega
    have lv : v.length ≤ 100000 := by have := congrArg List.length jw; simp at this; omega
    have nu : 45 ∉ u := fun z => h45 (by rw [← jw]; simp [z])
    have nv : 45 ∉ v := fun z => h45 (by rw [← jw]; simp [z])
    have g : ∀ s, ifM (boolM (op2 neD (callD lenG (consM (getM 1) (pureM []))) (pureM (.int 2)))) s skipM (ceE w (.d (.lst ([u, v].map fun v => D.str (tx v))))) = .ok .nx (ceE w (.d (.lst ([u, v].map fun v => D.str (tx v))))) := fun s => by
      refine (if_f (ρ' := ceE w (.d (.lst ([u, v].map fun v => D.str (tx v))))) ?_).trans rfl
      have ln : lenG [.lst ([u, v].map fun v => D.str (tx v))] = some (.int 2) := rfl
      unfold ceE
      generalize D.lst ([u, v].map fun v => D.str (tx v)) = L at *
      simp [ln]
    have i0 : ixX (.lst ([u, v].map fun v => D.str (tx v))) (.int 0) = some (.str (tx u)) := rfl
    have i1 : ixX (.lst ([u, v].map fun v => D.str (tx v))) (.int 1) = some (.str (tx v)) := rfl
    generalize D.lst ([u, v].map fun v => D.str (tx v)) = L at *
    rcases number_word ou lu nu with eu | ⟨a, a0, eu, fa⟩
    · left
      unfold Mi.cell_in
      refine fn_exc (ρ0 := ceE w .no) (ρ' := ceE w (.d L)) rfl rfl ((seq_nx st).trans ((seq_nx (g _)).trans ?_))
      unfold ceE
      generalize tx u = U at *
      simp [i0, eu]
    · rcases number_word ov lv nv with ev | ⟨b, b0, ev, fb⟩
      · left
        unfold Mi.cell_in
        refine fn_exc (ρ0 := ceE w .no) (ρ' := ceE w (.d L)) rfl rfl ((seq_nx st).trans ((seq_nx (g _)).trans ?_))
        unfold ceE
        generalize tx u = U at *
        generalize tx v = V at *
        simp [i0, eu, i1, ev]
      · right
        refine ⟨a, b, a0, b0, ?_, fun h1 h2 => ?_⟩
        · unfold Mi.cell_in
          refine fn_run (ρ0 := ceE w .no) (ρ' := ceE w (.d L)) rfl rfl ((seq_nx st).trans ((seq_nx (g _)).trans (ret_ok ?_)))
          unfold ceE
          generalize tx u = U at *
          generalize tx v = V at *
          simp [i0, eu, i1, ev]
        · rw [← jw, fa h1, fb h2]; rfl
  · left
    unfold Mi.cell_in
    refine fn_exc (ρ0 := ceE w .no) (ρ' := ceE w (.d (.lst ((splitL 46 w).map fun v => D.str (tx v))))) rfl rfl ((seq_nx st).trans (seq_exc ((if_t (ρ' := ceE w (.d (.lst ((splitL 46 w).map fun v => D.str (tx v))))) ?_).trans rfl)))
    have h2' : ¬ (((splitL 46 w).length : Int) = 2) := by omega
    unfold ceE
    generalize D.lst ((splitL 46 w).map fun v => D.str (tx v)) = L at *
    simp [ln, h2']
end DL
end
section
/-! moves in any word -/
namespace DL
open PySem PySem.Spec L2 DLS
open PyProof.Rows hiding St
theorem splitL_none {c : Nat} : ∀ (l : List Nat), ∀ w ∈ splitL c l, c ∉ w
  | [], w, hw => by simp [splitL] at hw; rw [hw]; simp
  | h :: t, w, hw => by
    have ih := splitL_none (c := c) t
    rw [splitL_cons] at hw
    by_cases z : h = c
    · rw [if_pos z] at hw
      rcases List.mem_cons.mp hw with e | e
      · rw [e]; simp
      · exact ih w e
    · rw [if_neg z] at hw
      cases e : splitL c t with
      | nil => exact absurd e (splitL_ne c t)
      | cons y ys =>
        rw [e] at hw ih
        rcases List.mem_cons.mp hw with q | q
        · rw [q]
          intro m
          rcases List.mem_cons.mp m with m | m
          · exact z m.symm
          · exact ih y (by simp) m
        · exact ih w (by simp [q])
def mvE (w : List Nat) (s t : Sl) : DL.Env := [.d (.str (tx w)), s, t]
def mx (a b : Int) : Int := if b > a then b else a
theorem mx_le {a b : Int} : mx a b ≤ 4 ↔ a ≤ 4 ∧ b ≤ 4 := by unfold mx; split <;> omega
/-- move_in of any word -/
theorem move_word {w : List Nat} (hk : okT w = true) (hl : w.length ≤ 100000) : Mi.move_in [.d (.str (tx w))] = .exc "BadText" [] ∨ ∃ m : Move, okM m ∧ w = mtL m ∧ Mi.move_in [.d (.str (tx w))] = .ok (enc m) [] := by
  have so : splitO (.str (tx w)) [.str "-"] = some ((splitL 45 w).map fun v => D.str (tx v)) := by rw [s_dash, splitO_big (by decide) (by omega)]
  have st : setM 1 (lstM (mtVO "str" splitO (getM 0) (consM (pureM (.str "-")) (pureM [])))) (mvE w .no .no) = .ok .nx (mvE w (.d (.lst ((splitL 45 w).map fun v => D.str (tx v)))) .no) := by
    unfold mvE
    generalize ((splitL 45 w).map fun v => D.str (tx v)) = L at *
    generalize tx w = S at *
    simp [mtVO, tyM_ap', tyD_str, so]
  have jw := join_splitL 45 w
  have sn := splitL_none (c := 45) w
  have ln : lenG [.lst ((splitL 45 w).map fun v => D.str (tx v))] = some (.int (((splitL 45 w).map fun v => D.str (tx v)).length : Nat)) := rfl
  rw [List.length_map] at ln
  by_cases h2 : (splitL 45 w).length = 2
  · obtain ⟨u, v, e⟩ : ∃ u v, splitL 45 w = [u, v] := by
      match hq : splitL 45 w, h2 with
      | [u, v], _ => exact ⟨u, v, rfl⟩
    rw [e] at st ln jw sn
    have jw : u ++ 45 :: (v ++ []) = w := jw
    rw [List.append_nil] at jw
    have ou := okT_of hk (a := u) (fun x hx => by rw [← jw]; simp [hx])
    have ov := okT_of hk (a := v) (fun x hx => by rw [← jw]; simp [hx])
    have lu : u.length ≤ 100000 := by have := congrArg List.length jw; simp at this; omega
    have lv : v.length ≤ 100000 := by have := congrArg List.length jw; simp at this; omega
    have nu : 45 ∉ u := sn u (by simp)
    have nv : 45 ∉ v := sn v (by simp)
    have g : ∀ s, ifM (boolM (op2 neD (callD lenG (consM (getM 1) (pureM []))) (pureM (.int 2)))) s skipM (mvE w (.d (.lst ([u, v].map fun v => D.str (tx v)))) .no) = .ok .nx (mvE w (.d (.lst ([u, v].map fun v => D.str (tx v)))) .no) := fun s => by
      refine (if_f (ρ' := mvE w (.d (.lst ([u, v].map fun v => D.str (tx v)))) .no) ?_).trans rfl
      have ln : lenG [.lst ([u, v].map fun v => D.str (tx v))] = some (.int 2) := rfl
      unfold mvE
      generalize D.lst ([u, v].map fun v => D.str (tx v)) = L at *
      simp [ln]
    have i0 : ixX (.lst ([u, v].map fun v => D.str (tx v))) (.int 0) = some (.str (tx u)) := rfl
    have i1 : ixX (.lst ([u, v].map fun v => D.str (tx v))) (.int 1) = some (.str (tx v)) := rfl
    generalize D.lst ([u, v].map fun v => D.str (tx v)) = L at *
    rcases cell_word ou lu nu with eu | ⟨a, b, a0, b0, eu, fu⟩
    · left
      unfold Mi.move_in
      refine fn_exc (ρ0 := mvE w .no .no) (ρ' := mvE w (.d L) .no) rfl rfl ((seq_nx st).trans ((seq_nx (g _)).trans (seq_exc ?_)))
      unfold mvE
      generalize tx u = U at *
      simp [i0, eu]
    · rcases cell_word ov lv nv with ev | ⟨c, d, c0, d0, ev, fv⟩
      · left
        unfold Mi.move_in
        refine fn_exc (ρ0 := mvE w .no .no) (ρ' := mvE w (.d L) .no) rfl rfl ((seq_nx st).trans ((seq_nx (g _)).trans (seq_exc ?_)))
        unfold mvE
        generalize tx u = U at *
        generalize tx v = V at *
        simp [i0, eu, i1, ev]
      · have st2 : setM 2 (tupM (consM (callM Mi.cell_in (mdM [false] (consA (op2 ixX (getM 1) (pureM (.int 0))) (pureM [])))) (consM (callM Mi.cell_in (mdM [false] (consA (op2 ixX (getM 1) (pureM (.int 1))) (pureM [])))) (pureM [])))) (mvE w (.d L) .no) = .ok .nx (mvE w (.d L) (.d (.tup [.tup [.int a, .int b], .tup [.int c, .int d]]))) := by
          unfold mvE
          generalize tx u = U at *
          generalize tx v = V at *
          simp [i0, eu, i1, ev]
        have j0 : ixX (.tup [.tup [.int a, .int b], .tup [.int c, .int d]]) (.int 0) = some (.tup [.int a, .int b]) := rfl
        have j1 : ixX (.tup [.tup [.int a, .int b], .tup [.int c, .int d]]) (.int 1) = some (.tup [.int c, .int d]) := rfl
        have x1 : maxTD [.tup [.int a, .int b]] = some (.int (mx a b)) := rfl
        have x2 : maxTD [.tup [.int c, .int d]] = some (.int (mx c d)) := rfl
        have x3 : max2D [.int (mx a b), .int (mx c d)] = some (.int (mx (mx a b) (mx c d))) := rfl
        by_cases h4 : mx (mx a b) (mx c d) ≤ 4
        · right
          obtain ⟨h5, h6⟩ := mx_le.mp h4
          obtain ⟨ha, hb⟩ := mx_le.mp h5
          obtain ⟨hc, hd⟩ := mx_le.mp h6
          refine ⟨((a, b), (c, d)), ⟨⟨a0, by show a < 5; omega⟩, ⟨b0, by show b < 5; omega⟩, ⟨c0, by show c < 5; omega⟩, ⟨d0, by show d < 5; omega⟩⟩, ?_, ?_⟩
          · rw [← jw, fu (by omega) (by omega), fv (by omega) (by omega)]; rfl
          · have h4' : ¬ (4 < mx (mx a b) (mx c d)) := by omega
            unfold Mi.move_in
            refine fn_run (ρ0 := mvE w .no .no) (ρ' := mvE w (.d L) (.d (.tup [.tup [.int a, .int b], .tup [.int c, .int d]]))) rfl rfl ((seq_nx st).trans ((seq_nx (g _)).trans ((seq_nx st2).trans ((seq_nx (if_no (ρ' := mvE w (.d L) (.d (.tup [.tup [.int a, .int b], .tup [.int c, .int d]]))) ?_)).trans (ret_ok rfl)))))
            unfold mvE
            generalize mx (mx a b) (mx c d) = M at *
            generalize mx a b = M1 at *
            generalize mx c d = M2 at *
            generalize D.tup [.tup [.int a, .int b], .tup [.int c, .int d]] = TT at *
            simp [j0, j1, x1, x2, x3, h4']
        · left
          have h4' : 4 < mx (mx a b) (mx c d) := by omega
          unfold Mi.move_in
          refine fn_exc (ρ0 := mvE w .no .no) (ρ' := mvE w (.d L) (.d (.tup [.tup [.int a, .int b], .tup [.int c, .int d]]))) rfl rfl ((seq_nx st).trans ((seq_nx (g _)).trans ((seq_nx st2).trans (seq_exc ((if_t (ρ' := mvE w (.d L) (.d (.tup [.tup [.int a, .int b], .tup [.int c, .int d]]))) ?_).trans rfl)))))
          unfold mvE
          generalize mx (mx a b) (mx c d) = M at *
          generalize mx a b = M1 at *
          generalize mx c d = M2 at *
          generalize D.tup [.tup [.int a, .int b], .tup [.int c, .int d]] = TT at *
          simp [j0, j1, x1, x2, x3, h4']
  · left
    unfold Mi.move_in
    refine fn_exc (ρ0 := mvE w .no .no) (ρ' := mvE w (.d (.lst ((splitL 45 w).map fun v => D.str (tx v)))) .no) rfl rfl ((seq_nx st).trans (seq_exc ((if_t (ρ' := mvE w (.d (.lst ((splitL 45 w).map fun v => D.str (tx v)))) .no) ?_).trans rfl)))
    have h2' : ¬ (((splitL 45 w).length : Int) = 2) := by omega
    unfold mvE
    generalize D.lst ((splitL 45 w).map fun v => D.str (tx v)) = L at *
    simp [ln, h2']
end DL
end
section
/-! find from a place; a sign at a place -/
namespace DL
open PySem PySem.Spec L2 DLS PySem.StrLaws
open PyProof.Rows hiding St
theorem from_nat (n a : Nat) (h : a ≤ n) : PySem.fromIndex n (a : Int) = a := by
  unfold PySem.fromIndex
  split <;> omega
theorem getD_tx (l : List Nat) (v : Nat) : (tx l).cps.getD v 0 = l.getD v 0 := by
  unfold tx
  simp
/-- the first c at or behind pre -/
theorem find_at {c : Nat} (hc : 0 < c) (pre w s : List Nat) (hw : c ∉ w) : find3D (.str (tx (pre ++ (w ++ c :: s)))) [.str (tx [c]), .int (pre.length : Int)] = some (.int ((pre.length + w.length : Nat) : Int)) := by
  show some (D.int (Txt.find3 (tx (pre ++ (w ++ c :: s))) (tx [c]) (pre.length : Int))) = _
  have key := find3_spec (tx (pre ++ (w ++ c :: s))) c (pre.length : Int)
  rw [tx_len, from_nat _ _ (by simp)] at key
  have at1 : (tx (pre ++ (w ++ c :: s))).cps.getD (pre.length + w.length) 0 = c := by
    rw [getD_tx, List.getD_eq_getElem?_getD, List.getElem?_append_right (by omega), List.getElem?_append_right (by omega)]
    simp
  have at2 : ∀ v, pre.length ≤ v → v < pre.length + w.length → (tx (pre ++ (w ++ c :: s))).cps.getD v 0 ≠ c := fun v h1 h2 z => by
    rw [getD_tx, List.getD_eq_getElem?_getD, List.getElem?_append_right (by omega), List.getElem?_append_left (by omega), List.getElem?_eq_getElem (by omega)] at z
    exact hw (by rw [← z]; exact List.getElem_mem _)
  rcases key with ⟨_, hn⟩ | ⟨k, e, h1, h2, h3, h4⟩
  · exact absurd at1 (hn _ (by omega) (by simp))
  · have : k = pre.length + w.length := by
      rcases Nat.lt_trichotomy k (pre.length + w.length) with h | h | h
      · exact absurd h3 (at2 k h1 h)
      · exact h
      · exact absurd at1 (h4 _ (by omega) h)
    have e : Txt.find3 (tx (pre ++ (w ++ c :: s))) (tx [c]) (pre.length : Int) = (k : Int) := e
    rw [e, this]
theorem find_none {c : Nat} (hc : 0 < c) (pre s : List Nat) (hs : c ∉ s) : find3D (.str (tx (pre ++ s))) [.str (tx [c]), .int (pre.length : Int)] = some (.int (-1)) := by
  show some (D.int (Txt.find3 (tx (pre ++ s)) (tx [c]) (pre.length : Int))) = _
  have key := find3_spec (tx (pre ++ s)) c (pre.length : Int)
  rw [tx_len, from_nat _ _ (by simp)] at key
  rcases key with ⟨e, _⟩ | ⟨k, e, h1, h2, h3, h4⟩
  · have e : Txt.find3 (tx (pre ++ s)) (tx [c]) (pre.length : Int) = -1 := e
    rw [e]
  · rw [getD_tx, List.getD_eq_getElem?_getD, List.getElem?_append_right (by omega)] at h3
    simp at h2
    rw [List.getElem?_eq_getElem (by omega)] at h3
    exact absurd (by rw [← h3]; exact List.getElem_mem _) hs
/-- text[at:at + 1] -/
theorem sign_at (pre s : List Nat) (hl : (pre ++ s).length ≤ 1000000) : slD (some (pre.length : Int)) (some ((pre.length : Int) + 1)) (.str (tx (pre ++ s))) = some (.str (tx (s.take 1))) := by
  show (if (tx _).length ≤ sizeLine then some (D.str (tx (cutL (pre ++ s) (some (pre.length : Int)) (some (((pre.length + 1 : Nat) : Int)))))) else none) = _
  rw [if_pos (by rw [tx_len, sizeLine_eq]; omega)]
  congr 2
  unfold cutL
  rw [HT.sIx_nat, HT.sIx_nat]
  have h : min pre.length (pre ++ s).length = pre.length := by simp
  rw [h, List.drop_left]
  cases s with
  | nil => simp
  | cons a r =>
    rw [show min (pre.length + 1) (pre ++ a :: r).length = pre.length + 1 by simp]
    simp
end DL
end
section
/-! a typed parser of trees, in plain Lean -/
namespace DL
open PySem PySem.Spec L2 DLS
open PyProof.Rows hiding St
inductive PR (α : Type) where
  | out
  | bad
  | ok (a : α)
def cutB : List Nat → Option (List Nat × List Nat)
  | [] => none
  | c :: r => if c = 32 then some ([], r) else (cutB r).map fun p => (c :: p.1, p.2)
theorem cutB_some : ∀ {s w r : List Nat}, cutB s = some (w, r) → s = w ++ 32 :: r ∧ 32 ∉ w
  | [], w, r, h => by simp [cutB] at h
  | c :: s, w, r, h => by
    unfold cutB at h
    by_cases z : c = 32
    · rw [if_pos z] at h
      simp at h
      obtain ⟨rfl, rfl⟩ := h
      simp [z]
    · rw [if_neg z] at h
      cases e : cutB s with
      | none => rw [e] at h; simp at h
      | some p =>
        rw [e] at h
        obtain ⟨p1, p2⟩ := p
        simp at h
        obtain ⟨rfl, rfl⟩ := h
        obtain ⟨h1, h2⟩ := cutB_some e
        refine ⟨by rw [h1]; rfl, fun m => ?_⟩
        rcases List.mem_cons.mp m with m | m
        · exact z m.symm
        · exact h2 m
theorem cutB_none : ∀ {s : List Nat}, cutB s = none → 32 ∉ s
  | [], _ => by simp
  | c :: s, h => by
    unfold cutB at h
    by_cases z : c = 32
    · rw [if_pos z] at h; cases h
    · rw [if_neg z] at h
      have := cutB_none (s := s) (by cases e : cutB s with | none => rfl | some p => rw [e] at h; cases h)
      intro m
      rcases List.mem_cons.mp m with m | m
      · exact z m.symm
      · exact this m
theorem cutB_of : ∀ {w : List Nat} (r : List Nat), 32 ∉ w → cutB (w ++ 32 :: r) = some (w, r)
  | [], r, _ => by simp [cutB]
  | c :: w, r, h => by
    have hc : ¬ c = 32 := fun z => h (by simp [z])
    show cutB (c :: (w ++ 32 :: r)) = _
    unfold cutB
    rw [if_neg hc, cutB_of r fun m => h (by simp [m])]; rfl
def rdMv : List Nat → Option Move
  | [a, x, b, y, c, z, d] => if x = 46 ∧ y = 45 ∧ z = 46 ∧ (48 ≤ a ∧ a < 53) ∧ (48 ≤ b ∧ b < 53) ∧ (48 ≤ c ∧ c < 53) ∧ (48 ≤ d ∧ d < 53) then some ((((a - 48 : Nat) : Int), ((b - 48 : Nat) : Int)), (((c - 48 : Nat) : Int), ((d - 48 : Nat) : Int))) else none
  | _ => none
theorem rdMv_some {w : List Nat} {m : Move} (h : rdMv w = some m) : okM m ∧ w = mtL m := by
  unfold rdMv at h
  split at h
  · rename_i a x b y c z d
    split at h
    · rename_i q
      obtain ⟨rfl, rfl, rfl, ⟨a1, a2⟩, ⟨b1, b2⟩, ⟨c1, c2⟩, ⟨d1, d2⟩⟩ := q
      injection h with h
      subst h
      have nn : ∀ x : Nat, x < 53 → (0 : Int) ≤ ((x - 48 : Nat) : Int) ∧ ((x - 48 : Nat) : Int) < 5 := fun x hx => by omega
      have ee : ∀ x : Nat, 48 ≤ x → 48 + (((x - 48 : Nat) : Int)).toNat = x := fun x hx => by omega
      refine ⟨⟨nn a a2, nn b b2, nn c c2, nn d d2⟩, ?_⟩
      show [a, 46, b, 45, c, 46, d] = [48 + (((a - 48 : Nat) : Int)).toNat, 46, 48 + (((b - 48 : Nat) : Int)).toNat, 45, 48 + (((c - 48 : Nat) : Int)).toNat, 46, 48 + (((d - 48 : Nat) : Int)).toNat]
      rw [ee a a1, ee b b1, ee c c1, ee d d1]
    · cases h
  · cases h
theorem rdMv_mt {m : Move} (h : okM m) : rdMv (mtL m) = some m := by
  obtain ⟨⟨a, b⟩, ⟨c, d⟩⟩ := m
  obtain ⟨⟨h1, h2⟩, ⟨h3, h4⟩, ⟨h5, h6⟩, ⟨h7, h8⟩⟩ := h
  simp only at h1 h2 h3 h4 h5 h6 h7 h8
  unfold mtL rdMv
  simp only
  have c1 : ∀ x : Int, 0 ≤ x → x < 5 → 48 ≤ 48 + x.toNat ∧ 48 + x.toNat < 53 := fun x a b => by omega
  rw [if_pos ⟨trivial, trivial, trivial, c1 a h1 h2, c1 b h3 h4, c1 c h5 h6, c1 d h7 h8⟩]
  congr 1
  have e : ∀ x : Int, 0 ≤ x → ((48 + x.toNat - 48 : Nat) : Int) = x := fun x hx => by omega
  rw [e a h1, e b h3, e c h5, e d h7]
theorem mt_no {m : Move} (h : okM m) : 32 ∉ mtL m := by
  obtain ⟨⟨a, b⟩, ⟨c, d⟩⟩ := m
  obtain ⟨⟨h1, h2⟩, ⟨h3, h4⟩, ⟨h5, h6⟩, ⟨h7, h8⟩⟩ := h
  simp only at h1 h2 h3 h4 h5 h6 h7 h8
  simp only [mtL, List.mem_cons, List.not_mem_nil, or_false, not_or]
  omega
def pRowF (tree : List Nat → PR (Tr × List Nat)) (s : List Nat) : PR ((Move × Tr) × List Nat) :=
  match cutB s with
  | none => .bad
  | some (w, r) => match tree r with
    | .ok (t, r') => (match rdMv w with
      | some m => .ok ((m, t), r')
      | none => .bad)
    | .bad => .bad
    | .out => .out
def pMore (row : List Nat → PR ((Move × Tr) × List Nat)) : Nat → List (Move × Tr) → List Nat → PR (List (Move × Tr) × List Nat)
  | 0, _, _ => .out
  | k + 1, acc, s => if s.take 1 = [124] then (match row (s.drop 1) with
      | .ok (x, r) => pMore row k (acc ++ [x]) r
      | .bad => .bad
      | .out => .out)
    else .ok (acc, s)
def pRowsF (row : List Nat → PR ((Move × Tr) × List Nat)) (s : List Nat) : PR (Tr × List Nat) :=
  match row s with
  | .ok (x, r) => (match pMore row 100000 [x] r with
    | .ok (rs, r') => if r'.take 1 = [93] then .ok (.al rs, r'.drop 1) else .bad
    | .bad => .bad
    | .out => .out)
  | .bad => .bad
  | .out => .out
def pTreeF (row : List Nat → PR ((Move × Tr) × List Nat)) (rows : List Nat → PR (Tr × List Nat)) (s : List Nat) : PR (Tr × List Nat) :=
  if s.take 1 = [33] then .ok (.leaf .won, s.drop 1)
  else if s.take 1 = [63] then .ok (.leaf .not, s.drop 1)
  else if s.take 1 = [91] then rows (s.drop 1)
  else if s.take 1 = [40] then (match row (s.drop 1) with
    | .ok ((m, t), r) => if r.take 1 = [41] then .ok (.mv m t, r.drop 1) else .bad
    | .bad => .bad
    | .out => .out)
  else .bad
/-- trees to n levels of calls: the mirror's tree_from, row_from, rows_from -/
def pAll : Nat → (List Nat → PR (Tr × List Nat)) × (List Nat → PR ((Move × Tr) × List Nat)) × (List Nat → PR (Tr × List Nat))
  | 0 => (fun _ => .out, fun _ => .out, fun _ => .out)
  | n + 1 => (pTreeF (pAll n).2.1 (pAll n).2.2, pRowF (pAll n).1, pRowsF (pAll n).2.1)
def pTree (n : Nat) := (pAll n).1
def pRow (n : Nat) := (pAll n).2.1
def pRows (n : Nat) := (pAll n).2.2
theorem take1 {s : List Nat} {c : Nat} (h : s.take 1 = [c]) : s = c :: s.drop 1 := by
  cases s with
  | nil => cases h
  | cons a r => simp at h; subst h; rfl
/-- what is read: moves of small numbers, rows in every list of rows -/
inductive RT : Tr → Prop
  | won : RT (.leaf .won)
  | not : RT (.leaf .not)
  | mv {m : Move} {t : Tr} : okM m → RT t → RT (.mv m t)
  | al {rs : List (Move × Tr)} : 1 ≤ rs.length → (∀ r ∈ rs, okM r.1) → (∀ r ∈ rs, RT r.2) → RT (.al rs)
theorem joinL_snc (c : Nat) {ws : List (List Nat)} (w : List Nat) (h : ws ≠ []) : joinL c (ws ++ [w]) = joinL c ws ++ c :: w := by
  have tl : ∀ ws : List (List Nat), tailP c (ws ++ [w]) = tailP c ws ++ c :: w := fun ws => by
    induction ws with
    | nil => simp [tailP]
    | cons y ys ih => simp only [List.cons_append, tailP, ih, List.append_assoc]
  cases ws with
  | nil => exact absurd rfl h
  | cons y ys => simp only [List.cons_append, joinL, tl, List.append_assoc]
def SR (p : List Nat → PR ((Move × Tr) × List Nat)) : Prop := ∀ s x r, p s = .ok (x, r) → okM x.1 ∧ RT x.2 ∧ s = prR x ++ r
def SoT (p : List Nat → PR (Tr × List Nat)) : Prop := ∀ s t r, p s = .ok (t, r) → RT t ∧ s = prT t ++ r
theorem sound_row {p : List Nat → PR (Tr × List Nat)} (h : SoT p) : SR (pRowF p) := by
  intro s x r e
  unfold pRowF at e
  cases ec : cutB s with
  | none => rw [ec] at e; cases e
  | some q =>
    obtain ⟨w, s'⟩ := q
    rw [ec] at e
    simp only at e
    cases et : p s' with
    | out => rw [et] at e; cases e
    | bad => rw [et] at e; cases e
    | ok q2 =>
      obtain ⟨t, r'⟩ := q2
      rw [et] at e
      simp only at e
      cases em : rdMv w with
      | none => rw [em] at e; cases e
      | some m =>
        rw [em] at e
        simp only [PR.ok.injEq, Prod.mk.injEq] at e
        obtain ⟨rfl, rfl⟩ := e
        obtain ⟨om, wm⟩ := rdMv_some em
        obtain ⟨h1, h2⟩ := h _ _ _ et
        obtain ⟨h3, _⟩ := cutB_some ec
        refine ⟨om, h1, ?_⟩
        rw [prR_eq, h3, h2, wm]
        simp
theorem sound_more {p : List Nat → PR ((Move × Tr) × List Nat)} (h : SR p) : ∀ (k : Nat) (acc : List (Move × Tr)) (s : List Nat) (rs : List (Move × Tr)) (r : List Nat), acc ≠ [] → (∀ x ∈ acc, okM x.1 ∧ RT x.2) → pMore p k acc s = .ok (rs, r) → rs ≠ [] ∧ (∀ x ∈ rs, okM x.1 ∧ RT x.2) ∧ joinL 124 (acc.map prR) ++ s = joinL 124 (rs.map prR) ++ r := by
  intro k
  induction k with
  | zero => intro acc s rs r _ _ e; cases e
  | succ k ih =>
    intro acc s rs r ha hx e
    unfold pMore at e
    by_cases z : s.take 1 = [124]
    · rw [if_pos z] at e
      cases er : p (s.drop 1) with
      | out => rw [er] at e; cases e
      | bad => rw [er] at e; cases e
      | ok q =>
        obtain ⟨x, r'⟩ := q
        rw [er] at e
        simp only at e
        obtain ⟨h1, h2, h3⟩ := h _ _ _ er
        obtain ⟨i1, i2, i3⟩ := ih (acc ++ [x]) r' rs r (by simp) (fun y hy => by
          rcases List.mem_append.mp hy with hy | hy
          · exact hx y hy
          · simp at hy; rw [hy]; exact ⟨h1, h2⟩) e
        refine ⟨i1, i2, ?_⟩
        rw [← i3, List.map_append, List.map_cons, List.map_nil, joinL_snc 124 _ (by simpa using ha), take1 z, h3]
        simp
    · rw [if_neg z] at e
      simp only [PR.ok.injEq, Prod.mk.injEq] at e
      obtain ⟨rfl, rfl⟩ := e
      exact ⟨ha, hx, rfl⟩
theorem sound_rows {p : List Nat → PR ((Move × Tr) × List Nat)} (h : SR p) : SoT (pRowsF p |> fun f s => match f (s.drop 1) with | .ok q => if s.take 1 = [91] then .ok q else .bad | .bad => .bad | .out => .out) := by
  intro s t r e
  simp only at e
  cases ef : pRowsF p (s.drop 1) with
  | out => rw [ef] at e; cases e
  | bad => rw [ef] at e; cases e
  | ok q =>
    rw [ef] at e
    simp only at e
    by_cases z : s.take 1 = [91]
    · rw [if_pos z] at e
      simp only [PR.ok.injEq] at e
      subst e
      unfold pRowsF at ef
      cases er : p (s.drop 1) with
      | out => rw [er] at ef; cases ef
      | bad => rw [er] at ef; cases ef
      | ok q =>
        obtain ⟨x, r'⟩ := q
        rw [er] at ef
        simp only at ef
        obtain ⟨h1, h2, h3⟩ := h _ _ _ er
        cases em : pMore p 100000 [x] r' with
        | out => rw [em] at ef; cases ef
        | bad => rw [em] at ef; cases ef
        | ok q =>
          obtain ⟨rs, r2⟩ := q
          rw [em] at ef
          simp only at ef
          obtain ⟨i1, i2, i3⟩ := sound_more h 100000 [x] r' rs r2 (by simp) (fun y hy => by simp at hy; rw [hy]; exact ⟨h1, h2⟩) em
          by_cases z2 : r2.take 1 = [93]
          · rw [if_pos z2] at ef
            simp only [PR.ok.injEq, Prod.mk.injEq] at ef
            obtain ⟨rfl, rfl⟩ := ef
            refine ⟨.al (by cases rs with | nil => exact absurd rfl i1 | cons a b => simp) (fun y hy => (i2 y hy).1) (fun y hy => (i2 y hy).2), ?_⟩
            have j1 : joinL 124 ([x].map prR) = prR x := by simp [joinL, tailP]
            rw [j1] at i3
            rw [prT_al, take1 z, h3, i3, take1 z2]
            simp
          · rw [if_neg z2] at ef; cases ef
    · rw [if_neg z] at e; cases e
theorem sound_all : ∀ n, SoT (pTree n) ∧ SR (pRow n)
  | 0 => by
    refine ⟨?_, ?_⟩
    · intro s t r e; cases e
    · intro s x r e; cases e
  | n + 1 => by
    obtain ⟨h1, h2⟩ := sound_all n
    refine ⟨?_, sound_row h1⟩
    intro s t r e
    have e : pTreeF (pRow n) (pRows n) s = .ok (t, r) := e
    unfold pTreeF at e
    by_cases z1 : s.take 1 = [33]
    · rw [if_pos z1] at e
      simp only [PR.ok.injEq, Prod.mk.injEq] at e
      obtain ⟨rfl, rfl⟩ := e
      exact ⟨.won, by rw [prT_won]; exact take1 z1⟩
    rw [if_neg z1] at e
    by_cases z2 : s.take 1 = [63]
    · rw [if_pos z2] at e
      simp only [PR.ok.injEq, Prod.mk.injEq] at e
      obtain ⟨rfl, rfl⟩ := e
      exact ⟨.not, by rw [prT_not]; exact take1 z2⟩
    rw [if_neg z2] at e
    by_cases z3 : s.take 1 = [91]
    · rw [if_pos z3] at e
      cases n with
      | zero => cases e
      | succ n =>
        have hr : SR (pRow n) := (sound_all n).2
        have := sound_rows hr s t r
        have e : pRowsF (pRow n) (s.drop 1) = .ok (t, r) := e
        refine this ?_
        show (match pRowsF (pRow n) (s.drop 1) with | .ok q => if s.take 1 = [91] then PR.ok q else .bad | .bad => .bad | .out => .out) = _
        rw [e]
        show (if s.take 1 = [91] then PR.ok (t, r) else .bad) = _
        rw [if_pos z3]
    rw [if_neg z3] at e
    by_cases z4 : s.take 1 = [40]
    · rw [if_pos z4] at e
      cases er : pRow n (s.drop 1) with
      | out => rw [er] at e; cases e
      | bad => rw [er] at e; cases e
      | ok q =>
        obtain ⟨⟨m, t'⟩, r'⟩ := q
        rw [er] at e
        simp only at e
        by_cases z5 : r'.take 1 = [41]
        · rw [if_pos z5] at e
          simp only [PR.ok.injEq, Prod.mk.injEq] at e
          obtain ⟨rfl, rfl⟩ := e
          obtain ⟨i1, i2, i3⟩ := h2 _ _ _ er
          refine ⟨.mv i1 i2, ?_⟩
          rw [prT_mv, take1 z4, i3, prR_eq, take1 z5]
          simp
        · rw [if_neg z5] at e; cases e
    · rw [if_neg z4] at e; cases e
end DL
end
section
/-! the typed parser ends, reads what is written; a written tree's signs weigh one -/
namespace DL
open PySem PySem.Spec L2 DLS
open PyProof.Rows hiding St
def opens (s : List Nat) : Nat := s.countP fun c => c == 40 || c == 91
theorem opens_app (a b : List Nat) : opens (a ++ b) = opens a + opens b := by unfold opens; rw [List.countP_append]
theorem opens_cons (c : Nat) (s : List Nat) : opens (c :: s) = opens s + if c = 40 ∨ c = 91 then 1 else 0 := by
  unfold opens
  rw [List.countP_cons]
  by_cases h : c = 40 <;> by_cases h2 : c = 91 <;> simp [h, h2]
theorem more_ends {p : List Nat → PR ((Move × Tr) × List Nat)} (hs : SR p) (N : Nat) (h : ∀ s, opens s ≤ N → s.length < 100000 → p s ≠ .out) : ∀ (k : Nat) (acc : List (Move × Tr)) (s : List Nat), s.length < k → opens s ≤ N → s.length < 100000 → pMore p k acc s ≠ .out := by
  intro k
  induction k with
  | zero => intro acc s hk; omega
  | succ k ih =>
    intro acc s hk ho hl
    unfold pMore
    by_cases z : s.take 1 = [124]
    · rw [if_pos z]
      have e := take1 z
      have l1 := congrArg List.length e
      have o1 := congrArg opens e
      rw [opens_cons] at o1
      simp only [show ¬ ((124 : Nat) = 40 ∨ (124 : Nat) = 91) by decide, if_false] at o1
      simp only [List.length_cons] at l1
      have := h (s.drop 1) (by omega) (by omega)
      cases er : p (s.drop 1) with
      | out => exact absurd er this
      | bad => simp
      | ok q =>
        obtain ⟨x, r⟩ := q
        obtain ⟨_, _, h3⟩ := hs _ _ _ er
        have l2 := congrArg List.length h3
        have o2 := congrArg opens h3
        rw [List.length_append] at l2
        rw [opens_app] at o2
        exact ih _ _ (by omega) (by omega) (by omega)
    · rw [if_neg z]; simp
theorem no_out : ∀ n, (∀ s, 3 * opens s + 1 ≤ n → s.length < 100000 → pTree n s ≠ .out) ∧ (∀ s, 3 * opens s + 2 ≤ n → s.length < 100000 → pRow n s ≠ .out) ∧ (∀ s, 3 * opens s + 3 ≤ n → s.length < 100000 → pRows n s ≠ .out)
  | 0 => ⟨fun s h => by omega, fun s h => by omega, fun s h => by omega⟩
  | n + 1 => by
    obtain ⟨i1, i2, i3⟩ := no_out n
    refine ⟨fun s ho hl => ?_, fun s ho hl => ?_, fun s ho hl => ?_⟩
    · show pTreeF (pRow n) (pRows n) s ≠ _
      unfold pTreeF
      by_cases z1 : s.take 1 = [33]
      · rw [if_pos z1]; simp
      rw [if_neg z1]
      by_cases z2 : s.take 1 = [63]
      · rw [if_pos z2]; simp
      rw [if_neg z2]
      by_cases z3 : s.take 1 = [91]
      · rw [if_pos z3]
        have e := take1 z3
        have l1 := congrArg List.length e
        have o1 := congrArg opens e
        rw [opens_cons, if_pos (by decide)] at o1
        simp only [List.length_cons] at l1
        exact i3 _ (by omega) (by omega)
      rw [if_neg z3]
      by_cases z4 : s.take 1 = [40]
      · rw [if_pos z4]
        have e := take1 z4
        have l1 := congrArg List.length e
        have o1 := congrArg opens e
        rw [opens_cons, if_pos (by decide)] at o1
        simp only [List.length_cons] at l1
        have := i2 (s.drop 1) (by omega) (by omega)
        cases er : pRow n (s.drop 1) with
        | out => exact absurd er this
        | bad => simp
        | ok q =>
          obtain ⟨⟨m, t⟩, r⟩ := q
          simp only
          split <;> simp
      · rw [if_neg z4]; simp
    · show pRowF (pTree n) s ≠ _
      unfold pRowF
      cases ec : cutB s with
      | none => simp
      | some q =>
        obtain ⟨w, r⟩ := q
        obtain ⟨e, _⟩ := cutB_some ec
        have l1 := congrArg List.length e
        have o1 := congrArg opens e
        rw [opens_app, opens_cons] at o1
        rw [List.length_append, List.length_cons] at l1
        simp only [show ¬ ((32 : Nat) = 40 ∨ (32 : Nat) = 91) by decide, if_false] at o1
        have := i1 r (by omega) (by omega)
        simp only
        cases et : pTree n r with
        | out => exact absurd et this
        | bad => simp
        | ok q =>
          obtain ⟨t, r'⟩ := q
          simp only
          cases rdMv w <;> simp
    · show pRowsF (pRow n) s ≠ _
      unfold pRowsF
      have := i2 s (by omega) hl
      cases er : pRow n s with
      | out => exact absurd er this
      | bad => simp
      | ok q =>
        obtain ⟨x, r⟩ := q
        simp only
        have hs := (sound_all n).2
        obtain ⟨_, _, h3⟩ := hs _ _ _ er
        have l2 := congrArg List.length h3
        have o2 := congrArg opens h3
        rw [List.length_append] at l2
        rw [opens_app] at o2
        have := more_ends hs (opens s) (fun s' h1 h2 => i2 s' (by omega) h2) 100000 [x] r (by omega) (by omega) (by omega)
        cases em : pMore (pRow n) 100000 [x] r with
        | out => exact absurd em this
        | bad => simp
        | ok q =>
          obtain ⟨rs, r'⟩ := q
          simp only
          split <;> simp
/-! ### what is written is read -/
theorem reads_row {p : List Nat → PR (Tr × List Nat)} {x : Move × Tr} (om : okM x.1) (rest : List Nat) (h : p (prT x.2 ++ rest) = .ok (x.2, rest)) : pRowF p (prR x ++ rest) = .ok (x, rest) := by
  unfold pRowF
  rw [prR_eq, show (mtL x.1 ++ 32 :: prT x.2) ++ rest = mtL x.1 ++ 32 :: (prT x.2 ++ rest) by simp, cutB_of _ (mt_no om)]
  simp only
  rw [h]
  simp only
  rw [rdMv_mt om]
theorem reads_more {p : List Nat → PR ((Move × Tr) × List Nat)} (rest : List Nat) (hr : rest.take 1 ≠ [124]) : ∀ (rs : List (Move × Tr)) (k : Nat) (acc : List (Move × Tr)), rs.length < k → (∀ x ∈ rs, ∀ r, p (prR x ++ r) = .ok (x, r)) → pMore p k acc (tailP 124 (rs.map prR) ++ rest) = .ok (acc ++ rs, rest)
  | [], k, acc, hk, h => by
    obtain ⟨k, rfl⟩ : ∃ j, k = j + 1 := ⟨k - 1, by omega⟩
    unfold pMore
    show (if rest.take 1 = [124] then _ else PR.ok (acc, rest)) = _
    rw [if_neg hr, List.append_nil]
  | x :: rs, k, acc, hk, h => by
    obtain ⟨k, rfl⟩ : ∃ j, k = j + 1 := ⟨k - 1, by omega⟩
    unfold pMore
    have e : tailP 124 ((x :: rs).map prR) ++ rest = 124 :: (prR x ++ (tailP 124 (rs.map prR) ++ rest)) := by
      simp [tailP]
    rw [e, if_pos (show (124 :: (prR x ++ (tailP 124 (rs.map prR) ++ rest))).take 1 = [124] from rfl)]
    show (match p (prR x ++ (tailP 124 (rs.map prR) ++ rest)) with | .ok (x, r) => pMore p k (acc ++ [x]) r | .bad => .bad | .out => .out) = _
    rw [h x (by simp)]
    simp only
    rw [reads_more rest hr rs k (acc ++ [x]) (by simp at hk; omega) fun y hy => h y (by simp [hy])]
    simp
theorem pTree_s (n : Nat) (s : List Nat) : pTree (n + 1) s = pTreeF (pRow n) (pRows n) s := rfl
theorem reads_tree {h : Nat} {t : Tr} (w : WT h t) : ∀ (n : Nat) (rest : List Nat), 3 * h + 1 ≤ n → pTree n (prT t ++ rest) = .ok (t, rest) := by
  induction w with
  | won =>
    intro n rest hn
    obtain ⟨n, rfl⟩ : ∃ j, n = j + 1 := ⟨n - 1, by omega⟩
    rw [pTree_s]
    unfold pTreeF
    rw [prT_won]; simp
  | not =>
    intro n rest hn
    obtain ⟨n, rfl⟩ : ∃ j, n = j + 1 := ⟨n - 1, by omega⟩
    rw [pTree_s]
    unfold pTreeF
    rw [prT_not]; simp
  | @mv h m t om wt ih =>
    intro n rest hn
    obtain ⟨n, rfl⟩ : ∃ j, n = j + 2 := ⟨n - 2, by omega⟩
    rw [pTree_s]
    unfold pTreeF
    have e : prT (.mv m t) ++ rest = 40 :: (prR (m, t) ++ (41 :: rest)) := by rw [prT_mv, prR_eq]; simp
    rw [e, if_neg (by simp), if_neg (by simp), if_neg (by simp), if_pos (by simp)]
    have := reads_row (p := pTree n) (x := (m, t)) om (41 :: rest) (ih n _ (by omega))
    have : pRow (n + 1) (prR (m, t) ++ 41 :: rest) = .ok ((m, t), 41 :: rest) := this
    rw [List.drop_succ_cons, List.drop_zero, this]
    simp
  | @al h rs h1 h3 hm hw ih =>
    intro n rest hn
    obtain ⟨n, rfl⟩ : ∃ j, n = j + 3 := ⟨n - 3, by omega⟩
    rw [pTree_s]
    unfold pTreeF
    obtain ⟨x, rs, rfl⟩ : ∃ x r, rs = x :: r := by cases rs with | nil => simp at h1 | cons x r => exact ⟨x, r, rfl⟩
    have e : prT (.al (x :: rs)) ++ rest = 91 :: (prR x ++ (tailP 124 (rs.map prR) ++ (93 :: rest))) := by
      rw [prT_al]; simp [joinL]
    rw [e, if_neg (by simp), if_neg (by simp), if_pos (by simp), List.drop_succ_cons, List.drop_zero]
    show pRowsF (pRow (n + 1)) _ = _
    have rr : ∀ y ∈ x :: rs, ∀ r, pRow (n + 1) (prR y ++ r) = .ok (y, r) := fun y hy r => reads_row (p := pTree n) (hm y hy) r (ih y hy n _ (by omega))
    unfold pRowsF
    rw [rr x (by simp)]
    simp only
    simp only [List.length_cons] at h3
    rw [reads_more (93 :: rest) (by simp) rs 100000 [x] (by omega) fun y hy => rr y (by simp [hy])]
    simp
/-! ### weights -/
def wt (c : Nat) : Int :=
  if c = 45 then -7 else if c = 124 ∨ c = 41 ∨ c = 93 then -1 else if c = 46 ∨ c = 32 ∨ c = 33 ∨ c = 63 ∨ c = 40 ∨ c = 91 ∨ (48 ≤ c ∧ c ≤ 52) then 1 else 0
def sumW : List Nat → Int
  | [] => 0
  | c :: r => wt c + sumW r
theorem sumW_app : ∀ a b : List Nat, sumW (a ++ b) = sumW a + sumW b
  | [], b => by simp [sumW]
  | c :: a, b => by simp only [List.cons_append, sumW, sumW_app a b]; omega
theorem wt_dig (x : Int) (h : 0 ≤ x) (h5 : x < 5) : wt (48 + x.toNat) = 1 := by
  unfold wt
  rw [if_neg (by omega), if_neg (by omega), if_pos (by omega)]
theorem sumW_mt {m : Move} (h : okM m) : sumW (mtL m) = -1 := by
  obtain ⟨⟨h1, h2⟩, ⟨h3, h4⟩, ⟨h5, h6⟩, ⟨h7, h8⟩⟩ := h
  simp only [mtL, sumW, wt_dig _ h1 h2, wt_dig _ h3 h4, wt_dig _ h5 h6, wt_dig _ h7 h8]
  decide
theorem sumW_tail : ∀ ws : List (List Nat), (∀ w ∈ ws, sumW w = 1) → sumW (tailP 124 ws) = 0
  | [], _ => rfl
  | w :: ws, h => by
    show sumW (124 :: (w ++ tailP 124 ws)) = 0
    simp only [sumW, sumW_app, h w (by simp), sumW_tail ws fun x hx => h x (by simp [hx])]
    decide
theorem sumW_RT {t : Tr} (h : RT t) : sumW (prT t) = 1 := by
  induction h with
  | won => rw [prT_won]; decide
  | not => rw [prT_not]; decide
  | mv om _ ih =>
    rw [prT_mv]
    simp only [sumW, sumW_app, sumW_mt om, ih]
    decide
  | @al rs h1 hm hr ih =>
    rw [prT_al]
    have hw : ∀ w ∈ rs.map prR, sumW w = 1 := fun w hw => by
      obtain ⟨r, hr, rfl⟩ := List.mem_map.mp hw
      rw [prR_eq, sumW_app]
      simp only [sumW, sumW_mt (hm r hr), ih r hr]
      decide
    cases rs with
    | nil => simp at h1
    | cons x rs =>
      simp only [List.map_cons, joinL]
      simp only [sumW, sumW_app, hw (prR x) (by simp), sumW_tail (rs.map prR) fun w h => hw w (by simp only [List.map_cons, List.mem_cons]; exact .inr h)]
      decide
theorem dig_ne (x : Int) (h : 0 ≤ x) (h5 : x < 5) : wt (48 + x.toNat) ≠ 0 := by rw [wt_dig x h h5]; decide
theorem mt_signs {m : Move} (h : okM m) : ∀ c ∈ mtL m, wt c ≠ 0 := by
  obtain ⟨⟨h1, h2⟩, ⟨h3, h4⟩, ⟨h5, h6⟩, ⟨h7, h8⟩⟩ := h
  intro c hc
  simp only [mtL, List.mem_cons, List.not_mem_nil, or_false] at hc
  rcases hc with rfl | rfl | rfl | rfl | rfl | rfl | rfl
  · exact dig_ne _ h1 h2
  · decide
  · exact dig_ne _ h3 h4
  · decide
  · exact dig_ne _ h5 h6
  · decide
  · exact dig_ne _ h7 h8
theorem join_signs {ws : List (List Nat)} (h : ∀ w ∈ ws, ∀ c ∈ w, wt c ≠ 0) : ∀ c ∈ joinL 124 ws, wt c ≠ 0 := by
  have tl : ∀ ws : List (List Nat), (∀ w ∈ ws, ∀ c ∈ w, wt c ≠ 0) → ∀ c ∈ tailP 124 ws, wt c ≠ 0 := fun ws => by
    induction ws with
    | nil => intro _ c hc; simp [tailP] at hc
    | cons w ws ih =>
      intro h c hc
      have hc : c ∈ 124 :: (w ++ tailP 124 ws) := hc
      rcases List.mem_cons.mp hc with rfl | hc
      · decide
      rcases List.mem_append.mp hc with hc | hc
      · exact h w (by simp) c hc
      · exact ih (fun v hv => h v (by simp [hv])) c hc
  cases ws with
  | nil => intro c hc; simp [joinL] at hc
  | cons w ws =>
    intro c hc
    have hc : c ∈ w ++ tailP 124 ws := hc
    rcases List.mem_append.mp hc with hc | hc
    · exact h w (by simp) c hc
    · exact tl ws (fun v hv => h v (by simp [hv])) c hc
theorem RT_signs {t : Tr} (h : RT t) : ∀ c ∈ prT t, wt c ≠ 0 := by
  induction h with
  | won => rw [prT_won]; intro c hc; simp at hc; subst hc; decide
  | not => rw [prT_not]; intro c hc; simp at hc; subst hc; decide
  | mv om _ ih =>
    rw [prT_mv]
    intro c hc
    rcases List.mem_cons.mp hc with rfl | hc
    · decide
    rcases List.mem_append.mp hc with hc | hc
    · exact mt_signs om c hc
    rcases List.mem_cons.mp hc with rfl | hc
    · decide
    rcases List.mem_append.mp hc with hc | hc
    · exact ih c hc
    · simp at hc; subst hc; decide
  | @al rs h1 hm hr ih =>
    rw [prT_al]
    intro c hc
    rcases List.mem_cons.mp hc with rfl | hc
    · decide
    rcases List.mem_append.mp hc with hc | hc
    · refine join_signs (fun w hw c hc => ?_) c hc
      obtain ⟨r, hr, rfl⟩ := List.mem_map.mp hw
      rw [prR_eq] at hc
      rcases List.mem_append.mp hc with hc | hc
      · exact mt_signs (hm r hr) c hc
      rcases List.mem_cons.mp hc with rfl | hc
      · decide
      · exact ih r hr c hc
    · simp at hc; subst hc; decide
theorem WT_RT {n : Nat} {t : Tr} (h : WT n t) : RT t := by
  induction h with
  | won => exact .won
  | not => exact .not
  | mv om _ ih => exact .mv om ih
  | al h1 _ hm _ ih => exact .al h1 hm ih
/-- a written tree with a sign left out is no written tree -/
theorem less_one {t t' : Tr} (h : RT t) (h' : RT t') (k : Nat) (hk : k < (prT t).length) : prT t' ≠ (prT t).take k ++ (prT t).drop (k + 1) := by
  intro e
  have s := sumW_RT h'
  have s0 := sumW_RT h
  have c := RT_signs h ((prT t)[k]) (List.getElem_mem hk)
  rw [e, sumW_app] at s
  have e2 : prT t = (prT t).take k ++ ((prT t)[k] :: (prT t).drop (k + 1)) := by rw [← List.drop_eq_getElem_cons hk, List.take_append_drop]
  have s0' : sumW ((prT t).take k ++ ((prT t)[k] :: (prT t).drop (k + 1))) = 1 := by rw [← e2]; exact s0
  rw [sumW_app] at s0'
  simp only [sumW] at s0'
  omega
/-! ### how many opening signs -/
def nodeB : Nat → Nat
  | 0 => 0
  | n + 1 => 1 + 3 * nodeB n
theorem opens_mt {m : Move} (h : okM m) : opens (mtL m) = 0 := by
  obtain ⟨⟨h1, h2⟩, ⟨h3, h4⟩, ⟨h5, h6⟩, ⟨h7, h8⟩⟩ := h
  have d : ∀ x : Int, 0 ≤ x → x < 5 → ¬ (48 + x.toNat = 40 ∨ 48 + x.toNat = 91) := fun x a b => by omega
  simp only [mtL, opens_cons, if_neg (d _ h1 h2), if_neg (d _ h3 h4), if_neg (d _ h5 h6), if_neg (d _ h7 h8)]
  decide
theorem opens_tail (n : Nat) : ∀ ws : List (List Nat), (∀ w ∈ ws, opens w ≤ n) → opens (tailP 124 ws) ≤ n * ws.length
  | [], _ => Nat.zero_le _
  | w :: ws, h => by
    show opens (124 :: (w ++ tailP 124 ws)) ≤ _
    have h1 := h w (by simp)
    have h2 := opens_tail n ws fun x hx => h x (by simp [hx])
    rw [opens_cons, opens_app, List.length_cons, Nat.mul_add]
    simp only [show ¬ ((124 : Nat) = 40 ∨ (124 : Nat) = 91) by decide, if_false]
    omega
theorem opens_WT {n : Nat} {t : Tr} (h : WT n t) : opens (prT t) ≤ nodeB n := by
  induction h with
  | won => rw [prT_won]; exact Nat.zero_le _
  | not => rw [prT_not]; exact Nat.zero_le _
  | @mv n m t om _ ih =>
    rw [prT_mv]
    have e1 : opens [41] = 0 := rfl
    simp only [opens_cons, opens_app, opens_mt om, e1, nodeB]
    simp
    omega
  | @al n rs h1 h3 hm hw ih =>
    rw [prT_al]
    have e1 : opens [93] = 0 := rfl
    have hb : ∀ w ∈ rs.map prR, opens w ≤ nodeB n := fun w hw => by
      obtain ⟨r, hr, rfl⟩ := List.mem_map.mp hw
      have := ih r hr
      rw [prR_eq, opens_app, opens_cons, opens_mt (hm r hr)]
      simp
      exact this
    have : opens (joinL 124 (rs.map prR)) ≤ nodeB n * rs.length := by
      cases rs with
      | nil => simp at h1
      | cons x rs =>
        have h1 := hb (prR x) (by simp)
        have h2 := opens_tail (nodeB n) (rs.map prR) fun w h => hb w (by simp only [List.map_cons, List.mem_cons]; exact .inr h)
        rw [List.length_map] at h2
        simp only [List.map_cons, joinL, opens_app, List.length_cons, Nat.mul_add]
        omega
    have : nodeB n * rs.length ≤ nodeB n * 3 := Nat.mul_le_mul_left _ h3
    simp only [opens_cons, opens_app, e1, nodeB]
    simp
    omega
theorem opens_less (l : List Nat) (k : Nat) : opens (l.take k ++ l.drop (k + 1)) ≤ opens l := by
  have : opens (l.take k ++ l.drop k) = opens l := by rw [List.take_append_drop]
  rw [opens_app] at *
  have h2 : opens (l.drop k) = opens ((l.drop k).take 1) + opens (l.drop (k + 1)) := by
    rw [← opens_app, show l.drop (k + 1) = (l.drop k).drop 1 by rw [List.drop_drop], List.take_append_drop]
  omega
end DL
end
section
/-! the mirrors read as the typed parser does -/
namespace DL
open PySem PySem.Spec L2 DLS
open PyProof.Rows hiding St
theorem cut_mid (a w b : List Nat) (hl : (a ++ (w ++ b)).length ≤ 1000000) : slD (some (a.length : Int)) (some ((a.length + w.length : Nat) : Int)) (.str (tx (a ++ (w ++ b)))) = some (.str (tx w)) := by
  show (if (tx _).length ≤ sizeLine then some (D.str (tx (cutL (a ++ (w ++ b)) (some (a.length : Int)) (some ((a.length + w.length : Nat) : Int))))) else none) = _
  rw [if_pos (by rw [tx_len, sizeLine_eq]; omega)]
  congr 2
  unfold cutL
  rw [HT.sIx_nat, HT.sIx_nat]
  have h : min a.length (a ++ (w ++ b)).length = a.length := by simp
  have h2 : min (a.length + w.length) (a ++ (w ++ b)).length = a.length + w.length := by rw [Nat.min_eq_left]; simp
  rw [h, h2, List.drop_left]
  rw [show a.length + w.length - a.length = w.length by omega, List.take_left]
theorem move_none {w : List Nat} (hk : okT w = true) (hl : w.length ≤ 100000) (h : rdMv w = none) : Mi.move_in [.d (.str (tx w))] = .exc "BadText" [] := by
  rcases move_word hk hl with e | ⟨m, om, e, _⟩
  · exact e
  · rw [e, rdMv_mt om] at h; cases h
def TRel (k : Nat) (p : PR (Tr × List Nat)) (x : FRes) : Prop := match p with
  | .out => True
  | .bad => x = .exc "BadText" []
  | .ok q => x = .ok (.tup [encT q.1, .int ((k + (prT q.1).length : Nat) : Int)]) []
def RRel (k : Nat) (p : PR ((Move × Tr) × List Nat)) (x : FRes) : Prop := match p with
  | .out => True
  | .bad => x = .exc "BadText" []
  | .ok q => x = .ok (.tup [enc q.1.1, encT q.1.2, .int ((k + (prR q.1).length : Nat) : Int)]) []
def rrE (T : List Nat) (k : Nat) (s2 s3 s4 : Sl) : DL.Env := [.d (.str (tx T)), .d (.int (k : Int)), s2, s3, s4]
theorem row_walk {T : List Nat} (hT : okT T = true) (hl : T.length ≤ 100000) {n : Nat} (H : ∀ pre s, pre ++ s = T → TRel pre.length (pTree n s) (Mi.tree_from n [.d (.str (tx T)), .d (.int (pre.length : Int))])) (pre s : List Nat) (e : pre ++ s = T) : RRel pre.length (pRow (n + 1) s) (Mi.row_from (n + 1) [.d (.str (tx T)), .d (.int (pre.length : Int))]) := by
  show RRel _ (pRowF (pTree n) s) _
  unfold pRowF
  have st : ∀ j : Int, find3D (.str (tx T)) [.str " ", .int (pre.length : Int)] = some (.int j) → setM 2 (mtV "str" find3D (getM 0) (consM (pureM (.str " ")) (consM (getM 1) (pureM [])))) (rrE T pre.length .no .no .no) = .ok .nx (rrE T pre.length (.d (.int j)) .no .no) := fun j fd => by
    unfold rrE
    generalize tx T = S at *
    generalize (pre.length : Int) = P at *
    simp [mtV, tyM_ap', tyD_str, fd]
  cases ec : cutB s with
  | none =>
    have fd := find_none (c := 32) (by decide) pre s (cutB_none ec)
    rw [e, ← s_blank] at fd
    show fnM _ _ _ _ = _
    refine fn_exc (ρ0 := rrE T pre.length .no .no .no) (ρ' := rrE T pre.length (.d (.int (-1))) .no .no) rfl rfl ((seq_nx (st _ fd)).trans (seq_exc ((if_t (ρ' := rrE T pre.length (.d (.int (-1))) .no .no) ?_).trans rfl)))
    unfold rrE
    generalize tx T = S at *
    generalize (pre.length : Int) = P at *
    simp
  | some q =>
    obtain ⟨w, r⟩ := q
    obtain ⟨es, hw⟩ := cutB_some ec
    have fd := find_at (c := 32) (by decide) pre w r hw
    rw [← es, e, ← s_blank] at fd
    have e2 : (pre ++ w ++ [32]) ++ r = T := by rw [← e, es]; simp
    have h := H _ _ e2
    have el : (pre ++ w ++ [32]).length = pre.length + w.length + 1 := by simp; omega
    rw [el] at h
    have cm := cut_mid pre w (32 :: r) (by rw [← es, e]; omega)
    rw [← es, e] at cm
    have hwT : okT w = true := okT_of hT fun x hx => by rw [← e, es]; simp [hx]
    have hwl : w.length ≤ 100000 := by have := congrArg List.length e; rw [es] at this; simp at this; omega
    have ad : addD (.int ((pre.length + w.length : Nat) : Int)) (.int 1) = some (.int ((pre.length + w.length + 1 : Nat) : Int)) := rfl
    have nn : ¬ (((pre.length + w.length : Nat) : Int) < 0) := by omega
    have st0 := st _ fd
    have g : ∀ b, ifM (boolM (op2 ltA (getM 2) (pureM (.int 0)))) b skipM (rrE T pre.length (.d (.int ((pre.length + w.length : Nat) : Int))) .no .no) = .ok .nx (rrE T pre.length (.d (.int ((pre.length + w.length : Nat) : Int))) .no .no) := fun b => by
      refine if_no ?_
      unfold rrE
      generalize tx T = S at *
      generalize ((pre.length + w.length : Nat) : Int) = P2 at *
      generalize (pre.length : Int) = P at *
      simp [nn]
    simp only
    cases et : pTree n r with
    | out => exact trivial
    | bad =>
      rw [et] at h
      have h : Mi.tree_from n [.d (.str (tx T)), .d (.int ((pre.length + w.length + 1 : Nat) : Int))] = .exc "BadText" [] := h
      show fnM _ _ _ _ = _
      refine fn_exc (ρ0 := rrE T pre.length .no .no .no) (ρ' := rrE T pre.length (.d (.int ((pre.length + w.length : Nat) : Int))) .no .no) rfl rfl ((seq_nx st0).trans ((seq_nx (g _)).trans (seq_exc ?_)))
      unfold rrE
      generalize tx T = S at *
      generalize ((pre.length + w.length + 1 : Nat) : Int) = P3 at *
      generalize ((pre.length + w.length : Nat) : Int) = P2 at *
      generalize (pre.length : Int) = P at *
      simp [-addD_int, ad, h]
    | ok q =>
      obtain ⟨t, r'⟩ := q
      rw [et] at h
      have h : Mi.tree_from n [.d (.str (tx T)), .d (.int ((pre.length + w.length + 1 : Nat) : Int))] = .ok (.tup [encT t, .int ((pre.length + w.length + 1 + (prT t).length : Nat) : Int)]) [] := h
      have st2 : asgM (callM (Mi.tree_from n) (mdM [false, false] (consA (getM 0) (consA (op2 addD (getM 2) (pureM (.int 1))) (pureM []))))) (tgU 2 (tgs1 (tgN 3) (tgs1 (tgN 4) (tgs0)))) (rrE T pre.length (.d (.int ((pre.length + w.length : Nat) : Int))) .no .no) = .ok .nx (rrE T pre.length (.d (.int ((pre.length + w.length : Nat) : Int))) (.d (encT t)) (.d (.int ((pre.length + w.length + 1 + (prT t).length : Nat) : Int)))) := by
        unfold rrE
        generalize ((pre.length + w.length + 1 + (prT t).length : Nat) : Int) = P4 at *
        generalize tx T = S at *
        generalize ((pre.length + w.length + 1 : Nat) : Int) = P3 at *
        generalize ((pre.length + w.length : Nat) : Int) = P2 at *
        generalize (pre.length : Int) = P at *
        generalize encT t = ET at *
        simp [-addD_int, ad, h, tgU_ap]
      simp only
      cases em : rdMv w with
      | none =>
        have mn := move_none hwT hwl em
        show fnM _ _ _ _ = _
        refine fn_exc (ρ0 := rrE T pre.length .no .no .no) (ρ' := rrE T pre.length (.d (.int ((pre.length + w.length : Nat) : Int))) (.d (encT t)) (.d (.int ((pre.length + w.length + 1 + (prT t).length : Nat) : Int)))) rfl rfl ((seq_nx st0).trans ((seq_nx (g _)).trans ((seq_nx st2).trans ?_)))
        unfold rrE
        generalize ((pre.length + w.length + 1 + (prT t).length : Nat) : Int) = P4 at *
        generalize tx T = S at *
        generalize tx w = W at *
        generalize ((pre.length + w.length : Nat) : Int) = P2 at *
        generalize (pre.length : Int) = P at *
        generalize encT t = ET at *
        simp [cm, mn]
      | some m =>
        obtain ⟨om, rfl⟩ := rdMv_some em
        have mr := mv_read om
        have lr : ((pre.length + (prR (m, t)).length : Nat) : Int) = ((pre.length + (mtL m).length + 1 + (prT t).length : Nat) : Int) := by
          rw [prR_eq]; simp only [List.length_append, List.length_cons]; omega
        show fnM _ _ _ _ = .ok (.tup [enc m, encT t, .int ((pre.length + (prR (m, t)).length : Nat) : Int)]) []
        rw [lr]
        refine fn_run (ρ0 := rrE T pre.length .no .no .no) (ρ' := rrE T pre.length (.d (.int ((pre.length + (mtL m).length : Nat) : Int))) (.d (encT t)) (.d (.int ((pre.length + (mtL m).length + 1 + (prT t).length : Nat) : Int)))) rfl rfl ((seq_nx st0).trans ((seq_nx (g _)).trans ((seq_nx st2).trans (ret_ok ?_))))
        unfold rrE
        generalize ((pre.length + (mtL m).length + 1 + (prT t).length : Nat) : Int) = P4 at *
        generalize tx T = S at *
        generalize tx (mtL m) = W at *
        generalize ((pre.length + (mtL m).length : Nat) : Int) = P2 at *
        generalize (pre.length : Int) = P at *
        generalize encT t = ET at *
        generalize (enc m : D) = EM at *
        simp [cm, mr]
def rwwE (T : List Nat) (k : Nat) (m t : D) (rs : List (Move × Tr)) : DL.Env := [.d (.str (tx T)), .d (.int (k : Int)), .d m, .d t, .cell (.l (rs.map encR))]
def mwC : M Bool := boolM (op2 eqD (slM (getM 0) (partM (getM 1)) (partM (op2 addD (getM 1) (pureM (.int 1))))) (pureM (.str "|")))
def mwB (n : Nat) : MS := seqM (asgM (callM (Mi.row_from n) (mdM [false, false] (consA (getM 0) (consA (op2 addD (getM 1) (pureM (.int 1))) (pureM []))))) (tgU 3 (tgs1 (tgN 2) (tgs1 (tgN 3) (tgs1 (tgN 1) (tgs0)))))) (dropM (mtO 4 appD (consM (tupM (consM (getM 2) (consM (getM 3) (pureM [])))) (pureM []))))
theorem while_s (c : M Bool) (b : MS) (k : Nat) (ρ : DL.Env) : whileM c b (k + 1) ρ = (match c ρ with
    | .ok false ρ1 => .ok .nx ρ1
    | .ok true ρ1 => (match b ρ1 with
      | .ok .nx ρ2 => whileM c b k ρ2
      | .ok .ct ρ2 => whileM c b k ρ2
      | .ok .brk ρ2 => .ok .nx ρ2
      | r => r)
    | .exc c ρ' => .exc c ρ'
    | .stuck => .stuck) := by
  conv => lhs; unfold whileM
  unfold bindM
  cases c ρ with
  | ok v ρ1 => cases v <;> rfl
  | exc => rfl
  | stuck => rfl
theorem eq_sign {s : List Nat} (hs : okT s = true) (c : Nat) (hc : okT [c] = true) : eqD (.str (tx (s.take 1))) (.str (tx [c])) = some (.bl (decide (s.take 1 = [c]))) := by
  rw [eqD_s (okT_of hs fun x hx => List.mem_of_mem_take hx) hc, tx_eq]
theorem ne_sign {s : List Nat} (hs : okT s = true) (c : Nat) (hc : okT [c] = true) : neD (.str (tx (s.take 1))) (.str (tx [c])) = some (.bl (!decide (s.take 1 = [c]))) := by
  rw [neD_s (okT_of hs fun x hx => List.mem_of_mem_take hx) hc, tx_eq]
theorem more_walk {T : List Nat} (hT : okT T = true) (hl : T.length ≤ 100000) {n : Nat} (H : ∀ pre s, pre ++ s = T → RRel pre.length (pRow n s) (Mi.row_from n [.d (.str (tx T)), .d (.int (pre.length : Int))])) : ∀ (k : Nat) (acc : List (Move × Tr)) (pre s : List Nat) (m t : D), pre ++ s = T → acc.length ≤ pre.length → (match pMore (pRow n) k acc s with
    | .out => True
    | .bad => ∃ ρ', whileM mwC (mwB n) k (rwwE T pre.length m t acc) = .exc "BadText" ρ'
    | .ok q => ∃ m' t' pre', pre' ++ q.2 = T ∧ whileM mwC (mwB n) k (rwwE T pre.length m t acc) = .ok .nx (rwwE T pre'.length m' t' q.1)) := by
  intro k
  induction k with
  | zero => intros; exact trivial
  | succ k ih =>
    intro acc pre s m t e ha
    have hs : okT s = true := okT_of hT fun x hx => by rw [← e]; simp [hx]
    have sg := sign_at pre s (by rw [e]; omega)
    rw [e] at sg
    have eq := eq_sign hs 124 rfl
    rw [← x_ba] at eq
    have cc : mwC (rwwE T pre.length m t acc) = .ok (decide (s.take 1 = [124])) (rwwE T pre.length m t acc) := by
      unfold mwC rwwE
      generalize tx (s.take 1) = S1 at *
      generalize decide (s.take 1 = [124]) = B at *
      generalize tx T = S at *
      generalize (pre.length : Int) = P at *
      generalize acc.map encR = L at *
      simp [sg, eq]
    unfold pMore
    rw [while_s, cc]
    by_cases z : s.take 1 = [124]
    · rw [if_pos z, decide_eq_true z]
      simp only
      have es := take1 z
      have e2 : (pre ++ [124]) ++ s.drop 1 = T := by rw [← e, List.append_assoc]; congr 1; exact es.symm
      have h := H _ _ e2
      have el : (pre ++ [124]).length = pre.length + 1 := by simp
      rw [el] at h
      have ad : addD (.int (pre.length : Int)) (.int 1) = some (.int ((pre.length + 1 : Nat) : Int)) := rfl
      cases er : pRow n (s.drop 1) with
      | out => exact trivial
      | bad =>
        rw [er] at h
        have h : Mi.row_from n [.d (.str (tx T)), .d (.int ((pre.length + 1 : Nat) : Int))] = .exc "BadText" [] := h
        refine ⟨rwwE T pre.length m t acc, ?_⟩
        have : mwB n (rwwE T pre.length m t acc) = .exc "BadText" (rwwE T pre.length m t acc) := by
          unfold mwB
          refine seq_exc ?_
          unfold rwwE
          generalize tx T = S at *
          generalize ((pre.length + 1 : Nat) : Int) = P1 at *
          generalize (pre.length : Int) = P at *
          generalize acc.map encR = L at *
          simp [-addD_int, ad, h]
        rw [this]
      | ok q =>
        obtain ⟨x, r⟩ := q
        rw [er] at h
        have h : Mi.row_from n [.d (.str (tx T)), .d (.int ((pre.length + 1 : Nat) : Int))] = .ok (.tup [enc x.1, encT x.2, .int ((pre.length + 1 + (prR x).length : Nat) : Int)]) [] := h
        obtain ⟨_, _, h3⟩ := (sound_all n).2 _ _ _ er
        have e3 : (pre ++ 124 :: prR x) ++ r = T := by rw [← e2, h3]; simp
        have el3 : (pre ++ 124 :: prR x).length = pre.length + 1 + (prR x).length := by simp; omega
        have lT := congrArg List.length e
        rw [List.length_append] at lT
        have hz : (acc.map encR).length < sizeLine := by rw [List.length_map, sizeLine_eq]; omega
        have am : (acc ++ [x]).map encR = acc.map encR ++ [.tup [enc x.1, encT x.2]] := by rw [List.map_append, List.map_cons, List.map_nil, encR_eq]
        have body : mwB n (rwwE T pre.length m t acc) = .ok .nx (rwwE T (pre ++ 124 :: prR x).length (enc x.1) (encT x.2) (acc ++ [x])) := by
          rw [el3]
          unfold mwB rwwE
          rw [am]
          generalize ((pre.length + 1 + (prR x).length : Nat) : Int) = P2 at *
          generalize tx T = S at *
          generalize ((pre.length + 1 : Nat) : Int) = P1 at *
          generalize (pre.length : Int) = P at *
          generalize acc.map encR = L at *
          generalize encT x.2 = ET at *
          generalize (enc x.1 : D) = EM at *
          simp [-addD_int, ad, h, tgU_ap, appD, hz]
        rw [body]
        exact ih (acc ++ [x]) (pre ++ 124 :: prR x) r _ _ e3 (by simp; omega)
    · rw [if_neg z, decide_eq_false z]
      simp only
      exact ⟨m, t, pre, e, rfl⟩
theorem rows_walk {T : List Nat} (hT : okT T = true) (hl : T.length ≤ 100000) {n : Nat} (H : ∀ pre s, pre ++ s = T → RRel pre.length (pRow n s) (Mi.row_from n [.d (.str (tx T)), .d (.int (pre.length : Int))])) (pre s : List Nat) (hp : 1 ≤ pre.length) (e : pre ++ s = T) : TRel (pre.length - 1) (pRows (n + 1) s) (Mi.rows_from (n + 1) [.d (.str (tx T)), .d (.int (pre.length : Int))]) := by
  show TRel _ (pRowsF (pRow n) s) _
  unfold pRowsF
  have h := H _ _ e
  cases er : pRow n s with
  | out => exact trivial
  | bad =>
    rw [er] at h
    have h : Mi.row_from n [.d (.str (tx T)), .d (.int (pre.length : Int))] = .exc "BadText" [] := h
    show fnM _ _ _ _ = _
    refine fn_exc (ρ0 := rrE T pre.length .no .no .no) (ρ' := rrE T pre.length .no .no .no) rfl rfl (seq_exc ?_)
    unfold rrE
    generalize tx T = S at *
    generalize (pre.length : Int) = P at *
    simp [h]
  | ok q =>
    obtain ⟨x, r⟩ := q
    rw [er] at h
    have h : Mi.row_from n [.d (.str (tx T)), .d (.int (pre.length : Int))] = .ok (.tup [enc x.1, encT x.2, .int ((pre.length + (prR x).length : Nat) : Int)]) [] := h
    obtain ⟨om, hx, h3⟩ := (sound_all n).2 _ _ _ er
    have e3 : (pre ++ prR x) ++ r = T := by rw [← e, h3]; simp
    have el3 : (pre ++ prR x).length = pre.length + (prR x).length := by simp
    have mw := more_walk hT hl H 100000 [x] (pre ++ prR x) r (enc x.1) (encT x.2) e3 (by simp; omega)
    have st1 : asgM (callM (Mi.row_from n) (mdM [false, false] (consA (getM 0) (consA (getM 1) (pureM []))))) (tgU 3 (tgs1 (tgN 2) (tgs1 (tgN 3) (tgs1 (tgN 1) (tgs0))))) (rrE T pre.length .no .no .no) = .ok .nx (rrE T (pre ++ prR x).length (.d (enc x.1)) (.d (encT x.2)) .no) := by
      rw [el3]
      unfold rrE
      generalize ((pre.length + (prR x).length : Nat) : Int) = P2 at *
      generalize tx T = S at *
      generalize (pre.length : Int) = P at *
      generalize encT x.2 = ET at *
      generalize (enc x.1 : D) = EM at *
      simp [h, tgU_ap]
    have st2 : setOM 4 (sizeM (consM (tupM (consM (getM 2) (consM (getM 3) (pureM [])))) (pureM []))) (rrE T (pre ++ prR x).length (.d (enc x.1)) (.d (encT x.2)) .no) = .ok .nx (rwwE T (pre ++ prR x).length (enc x.1) (encT x.2) [x]) := by
      have am : [x].map encR = [.tup [enc x.1, encT x.2]] := by rw [List.map_cons, List.map_nil, encR_eq]
      unfold rrE rwwE
      rw [am]
      generalize tx T = S at *
      generalize ((pre ++ prR x).length : Int) = P at *
      generalize encT x.2 = ET at *
      generalize (enc x.1 : D) = EM at *
      simp [sizeLine_eq]
    simp only
    cases em : pMore (pRow n) 100000 [x] r with
    | out => exact trivial
    | bad =>
      rw [em] at mw
      obtain ⟨ρ', mw⟩ := mw
      show fnM _ _ _ _ = _
      exact fn_exc (ρ0 := rrE T pre.length .no .no .no) (ρ' := ρ') rfl rfl ((seq_nx st1).trans ((seq_nx st2).trans (seq_exc mw)))
    | ok q =>
      obtain ⟨rs, r'⟩ := q
      rw [em] at mw
      obtain ⟨m', t', pre', e4, mw⟩ := mw
      simp only at e4
      have hs : okT r' = true := okT_of hT fun x hx => by rw [← e4]; simp [hx]
      have sg := sign_at pre' r' (by rw [e4]; omega)
      rw [e4] at sg
      have ne := ne_sign hs 93 rfl
      rw [← x_bc] at ne
      have cc : boolM (op2 neD (slM (getM 0) (partM (getM 1)) (partM (op2 addD (getM 1) (pureM (.int 1))))) (pureM (.str "]"))) (rwwE T pre'.length m' t' rs) = .ok (!decide (r'.take 1 = [93])) (rwwE T pre'.length m' t' rs) := by
        unfold rwwE
        generalize tx (r'.take 1) = S1 at *
        generalize decide (r'.take 1 = [93]) = B at *
        generalize tx T = S at *
        generalize (pre'.length : Int) = P at *
        generalize rs.map encR = L at *
        simp [sg, ne]
      simp only
      by_cases z : r'.take 1 = [93]
      · rw [if_pos z]
        rw [decide_eq_true z] at cc
        obtain ⟨_, _, i3⟩ := sound_more (sound_all n).2 100000 [x] r rs r' (by simp) (fun y hy => by simp at hy; rw [hy]; exact ⟨om, hx⟩) em
        have j1 : joinL 124 ([x].map prR) = prR x := by simp [joinL, tailP]
        rw [j1, ← h3] at i3
        have lp : ((pre.length - 1 + (prT (.al rs)).length : Nat) : Int) = (pre'.length : Int) + 1 := by
          have l1 := congrArg List.length e
          have l2 := congrArg List.length e4
          have l3 := congrArg List.length i3
          rw [prT_al]
          simp only [List.length_append, List.length_cons, List.length_nil] at *
          omega
        show fnM _ _ _ _ = .ok (.tup [encT (.al rs), .int ((pre.length - 1 + (prT (.al rs)).length : Nat) : Int)]) []
        rw [lp, encT_al]
        refine fn_run (ρ0 := rrE T pre.length .no .no .no) (ρ' := [.d (.str (tx T)), .d (.int (pre'.length : Int)), .d m', .d t', .d (.lst (rs.map encR))]) rfl rfl ((seq_nx st1).trans ((seq_nx st2).trans ((seq_nx mw).trans ((seq_nx (if_no cc)).trans (ret_ok ?_)))))
        unfold rwwE
        generalize tx T = S at *
        generalize (pre'.length : Int) = P at *
        generalize rs.map encR = L at *
        simp [ocD]
      · rw [if_neg z]
        rw [decide_eq_false z] at cc
        show fnM _ _ _ _ = _
        exact fn_exc (ρ0 := rrE T pre.length .no .no .no) (ρ' := rwwE T pre'.length m' t' rs) rfl rfl ((seq_nx st1).trans ((seq_nx st2).trans ((seq_nx mw).trans (seq_exc ((if_t cc).trans rfl)))))
def tteE (T : List Nat) (k : Nat) (s2 s3 s4 s5 : Sl) : DL.Env := [.d (.str (tx T)), .d (.int (k : Int)), s2, s3, s4, s5]
theorem tree_walk {T : List Nat} (hT : okT T = true) (hl : T.length ≤ 100000) {n : Nat} (H : ∀ pre s, pre ++ s = T → RRel pre.length (pRow n s) (Mi.row_from n [.d (.str (tx T)), .d (.int (pre.length : Int))])) (H2 : ∀ pre s, 1 ≤ pre.length → pre ++ s = T → TRel (pre.length - 1) (pRows n s) (Mi.rows_from n [.d (.str (tx T)), .d (.int (pre.length : Int))])) (pre s : List Nat) (e : pre ++ s = T) : TRel pre.length (pTree (n + 1) s) (Mi.tree_from (n + 1) [.d (.str (tx T)), .d (.int (pre.length : Int))]) := by
  show TRel _ (pTreeF (pRow n) (pRows n) s) _
  unfold pTreeF
  have hs : okT s = true := okT_of hT fun x hx => by rw [← e]; simp [hx]
  have sg := sign_at pre s (by rw [e]; omega)
  rw [e] at sg
  have st : setM 2 (slM (getM 0) (partM (getM 1)) (partM (op2 addD (getM 1) (pureM (.int 1))))) (tteE T pre.length .no .no .no .no) = .ok .nx (tteE T pre.length (.d (.str (tx (s.take 1)))) .no .no .no) := by
    unfold tteE
    generalize tx (s.take 1) = S1 at *
    generalize tx T = S at *
    generalize (pre.length : Int) = P at *
    simp [sg]
  have cs : ∀ (g : D → D → Option D) (z : Str) (b : Bool), g (.str (tx (s.take 1))) (.str z) = some (.bl b) → boolM (op2 g (getM 2) (pureM (.str z))) (tteE T pre.length (.d (.str (tx (s.take 1)))) .no .no .no) = .ok b (tteE T pre.length (.d (.str (tx (s.take 1)))) .no .no .no) := fun g z b q => by
    unfold tteE
    generalize tx (s.take 1) = S1 at *
    generalize tx T = S at *
    generalize (pre.length : Int) = P at *
    simp [q]
  have c1 := eq_sign hs 33 rfl
  rw [← x_ex] at c1
  have c1 := cs _ _ _ c1
  have c2 := eq_sign hs 63 rfl
  rw [← x_qu] at c2
  have c2 := cs _ _ _ c2
  have c3 := eq_sign hs 91 rfl
  rw [← x_bo] at c3
  have c3 := cs _ _ _ c3
  have c4 := ne_sign hs 40 rfl
  rw [← x_op] at c4
  have c4 := cs _ _ _ c4
  have ad : addD (.int (pre.length : Int)) (.int 1) = some (.int ((pre.length + 1 : Nat) : Int)) := rfl
  have shift : ∀ c, s.take 1 = [c] → (pre ++ [c]) ++ s.drop 1 = T ∧ (pre ++ [c]).length = pre.length + 1 := fun c z => ⟨by rw [← e, List.append_assoc]; congr 1; exact (take1 z).symm, by simp⟩
  by_cases z1 : s.take 1 = [33]
  · rw [if_pos z1]
    rw [decide_eq_true z1] at c1
    show fnM _ _ _ _ = .ok (.tup [encT (.leaf .won), .int ((pre.length + (prT (.leaf .won)).length : Nat) : Int)]) []
    rw [prT_won, encT_leaf]
    refine fn_run (ρ0 := tteE T pre.length .no .no .no .no) (ρ' := tteE T pre.length (.d (.str (tx (s.take 1)))) .no .no .no) rfl rfl ((seq_nx st).trans (seq_ret (if_ret c1 ?_)))
    unfold tteE
    show _ = Res.ok (D.tup [.tup [.str "won"], .int ((pre.length + 1 : Nat) : Int)]) _
    generalize ((pre.length + 1 : Nat) : Int) = P1 at *
    generalize (pre.length : Int) = P at *
    generalize tx (s.take 1) = S1 at *
    generalize tx T = S at *
    simp [-addD_int, ad]
  rw [if_neg z1]
  rw [decide_eq_false z1] at c1
  by_cases z2 : s.take 1 = [63]
  · rw [if_pos z2]
    rw [decide_eq_true z2] at c2
    show fnM _ _ _ _ = .ok (.tup [encT (.leaf .not), .int ((pre.length + (prT (.leaf .not)).length : Nat) : Int)]) []
    rw [prT_not, encT_leaf]
    refine fn_run (ρ0 := tteE T pre.length .no .no .no .no) (ρ' := tteE T pre.length (.d (.str (tx (s.take 1)))) .no .no .no) rfl rfl ((seq_nx st).trans ((seq_nx (if_no c1)).trans (seq_ret (if_ret c2 ?_))))
    unfold tteE
    show _ = Res.ok (D.tup [.tup [.str "not"], .int ((pre.length + 1 : Nat) : Int)]) _
    generalize ((pre.length + 1 : Nat) : Int) = P1 at *
    generalize (pre.length : Int) = P at *
    generalize tx (s.take 1) = S1 at *
    generalize tx T = S at *
    simp [-addD_int, ad]
  rw [if_neg z2]
  rw [decide_eq_false z2] at c2
  by_cases z3 : s.take 1 = [91]
  · rw [if_pos z3]
    rw [decide_eq_true z3] at c3
    obtain ⟨e2, el⟩ := shift _ z3
    have h := H2 _ _ (by rw [el]; omega) e2
    rw [el] at h
    rw [show pre.length + 1 - 1 = pre.length by omega] at h
    generalize pRows n (s.drop 1) = pr at *
    have cal : ∀ x, Mi.rows_from n [.d (.str (tx T)), .d (.int ((pre.length + 1 : Nat) : Int))] = x → (∃ d, x = .ok d []) ∨ x = .exc "BadText" [] → Mi.tree_from (n + 1) [.d (.str (tx T)), .d (.int (pre.length : Int))] = x := fun x hx q => by
      rcases q with ⟨d, rfl⟩ | rfl
      · show fnM _ _ _ _ = _
        refine fn_run (ρ0 := tteE T pre.length .no .no .no .no) (ρ' := tteE T pre.length (.d (.str (tx (s.take 1)))) .no .no .no) rfl rfl ((seq_nx st).trans ((seq_nx (if_no c1)).trans ((seq_nx (if_no c2)).trans (seq_ret (if_ret c3 ?_)))))
        unfold tteE
        generalize ((pre.length + 1 : Nat) : Int) = P1 at *
        generalize (pre.length : Int) = P at *
        generalize tx (s.take 1) = S1 at *
        generalize tx T = S at *
        simp [-addD_int, ad, hx]
      · show fnM _ _ _ _ = _
        refine fn_exc (ρ0 := tteE T pre.length .no .no .no .no) (ρ' := tteE T pre.length (.d (.str (tx (s.take 1)))) .no .no .no) rfl rfl ((seq_nx st).trans ((seq_nx (if_no c1)).trans ((seq_nx (if_no c2)).trans (seq_exc ((if_t c3).trans ?_)))))
        unfold tteE
        generalize ((pre.length + 1 : Nat) : Int) = P1 at *
        generalize (pre.length : Int) = P at *
        generalize tx (s.take 1) = S1 at *
        generalize tx T = S at *
        simp [-addD_int, ad, hx]
    cases pr with
    | out => exact trivial
    | bad => exact cal _ h (.inr rfl)
    | ok q => exact cal _ h (.inl ⟨_, rfl⟩)
  rw [if_neg z3]
  rw [decide_eq_false z3] at c3
  by_cases z4 : s.take 1 = [40]
  · rw [if_pos z4]
    rw [decide_eq_true z4] at c4
    obtain ⟨e2, el⟩ := shift _ z4
    have h := H _ _ e2
    rw [el] at h
    cases er : pRow n (s.drop 1) with
    | out => exact trivial
    | bad =>
      rw [er] at h
      have h : Mi.row_from n [.d (.str (tx T)), .d (.int ((pre.length + 1 : Nat) : Int))] = .exc "BadText" [] := h
      show fnM _ _ _ _ = _
      refine fn_exc (ρ0 := tteE T pre.length .no .no .no .no) (ρ' := tteE T pre.length (.d (.str (tx (s.take 1)))) .no .no .no) rfl rfl ((seq_nx st).trans ((seq_nx (if_no c1)).trans ((seq_nx (if_no c2)).trans ((seq_nx (if_no c3)).trans ((seq_nx (if_no c4)).trans (seq_exc ?_))))))
      unfold tteE
      generalize ((pre.length + 1 : Nat) : Int) = P1 at *
      generalize (pre.length : Int) = P at *
      generalize tx (s.take 1) = S1 at *
      generalize tx T = S at *
      simp [-addD_int, ad, h]
    | ok q =>
      obtain ⟨⟨m, t⟩, r⟩ := q
      rw [er] at h
      have h : Mi.row_from n [.d (.str (tx T)), .d (.int ((pre.length + 1 : Nat) : Int))] = .ok (.tup [enc m, encT t, .int ((pre.length + 1 + (prR (m, t)).length : Nat) : Int)]) [] := h
      obtain ⟨_, _, h3⟩ := (sound_all n).2 _ _ _ er
      have e3 : (pre ++ [40] ++ prR (m, t)) ++ r = T := by rw [← e2, h3]; simp
      have el3 : (pre ++ [40] ++ prR (m, t)).length = pre.length + 1 + (prR (m, t)).length := by simp; omega
      have hr : okT r = true := okT_of hT fun x hx => by rw [← e3]; simp [hx]
      have sg2 := sign_at (pre ++ [40] ++ prR (m, t)) r (by rw [e3]; omega)
      rw [e3, el3] at sg2
      have ne := ne_sign hr 41 rfl
      rw [← x_cl] at ne
      have st5 : asgM (callM (Mi.row_from n) (mdM [false, false] (consA (getM 0) (consA (op2 addD (getM 1) (pureM (.int 1))) (pureM []))))) (tgU 3 (tgs1 (tgN 3) (tgs1 (tgN 4) (tgs1 (tgN 5) (tgs0))))) (tteE T pre.length (.d (.str (tx (s.take 1)))) .no .no .no) = .ok .nx (tteE T pre.length (.d (.str (tx (s.take 1)))) (.d (enc m)) (.d (encT t)) (.d (.int ((pre.length + 1 + (prR (m, t)).length : Nat) : Int)))) := by
        unfold tteE
        generalize ((pre.length + 1 + (prR (m, t)).length : Nat) : Int) = P2 at *
        generalize ((pre.length + 1 : Nat) : Int) = P1 at *
        generalize (pre.length : Int) = P at *
        generalize tx (s.take 1) = S1 at *
        generalize tx T = S at *
        generalize encT t = ET at *
        generalize (enc m : D) = EM at *
        simp [-addD_int, ad, h, tgU_ap]
      have cc : boolM (op2 neD (slM (getM 0) (partM (getM 5)) (partM (op2 addD (getM 5) (pureM (.int 1))))) (pureM (.str ")"))) (tteE T pre.length (.d (.str (tx (s.take 1)))) (.d (enc m)) (.d (encT t)) (.d (.int ((pre.length + 1 + (prR (m, t)).length : Nat) : Int)))) = .ok (!decide (r.take 1 = [41])) (tteE T pre.length (.d (.str (tx (s.take 1)))) (.d (enc m)) (.d (encT t)) (.d (.int ((pre.length + 1 + (prR (m, t)).length : Nat) : Int)))) := by
        unfold tteE
        generalize tx (r.take 1) = S2 at *
        generalize decide (r.take 1 = [41]) = B at *
        generalize ((pre.length + 1 + (prR (m, t)).length : Nat) : Int) = P2 at *
        generalize (pre.length : Int) = P at *
        generalize tx (s.take 1) = S1 at *
        generalize tx T = S at *
        generalize encT t = ET at *
        generalize (enc m : D) = EM at *
        simp [sg2, ne]
      simp only
      by_cases z5 : r.take 1 = [41]
      · rw [if_pos z5]
        rw [decide_eq_true z5] at cc
        have lp : ((pre.length + (prT (.mv m t)).length : Nat) : Int) = ((pre.length + 1 + (prR (m, t)).length + 1 : Nat) : Int) := by
          rw [prT_mv, prR_eq]
          simp only [List.length_append, List.length_cons, List.length_nil]
          omega
        show fnM _ _ _ _ = .ok (.tup [encT (.mv m t), .int ((pre.length + (prT (.mv m t)).length : Nat) : Int)]) []
        rw [lp, encT_mv]
        refine fn_run (ρ0 := tteE T pre.length .no .no .no .no) (ρ' := tteE T pre.length (.d (.str (tx (s.take 1)))) (.d (enc m)) (.d (encT t)) (.d (.int ((pre.length + 1 + (prR (m, t)).length : Nat) : Int)))) rfl rfl ((seq_nx st).trans ((seq_nx (if_no c1)).trans ((seq_nx (if_no c2)).trans ((seq_nx (if_no c3)).trans ((seq_nx (if_no c4)).trans ((seq_nx st5).trans ((seq_nx (if_no cc)).trans (ret_ok ?_))))))))
        have ad2 : addD (.int ((pre.length + 1 + (prR (m, t)).length : Nat) : Int)) (.int 1) = some (.int ((pre.length + 1 + (prR (m, t)).length + 1 : Nat) : Int)) := rfl
        unfold tteE
        generalize ((pre.length + 1 + (prR (m, t)).length + 1 : Nat) : Int) = P3 at *
        generalize ((pre.length + 1 + (prR (m, t)).length : Nat) : Int) = P2 at *
        generalize (pre.length : Int) = P at *
        generalize tx (s.take 1) = S1 at *
        generalize tx T = S at *
        generalize encT t = ET at *
        generalize (enc m : D) = EM at *
        simp [-addD_int, ad2]
      · rw [if_neg z5]
        rw [decide_eq_false z5] at cc
        show fnM _ _ _ _ = _
        exact fn_exc (ρ0 := tteE T pre.length .no .no .no .no) (ρ' := tteE T pre.length (.d (.str (tx (s.take 1)))) (.d (enc m)) (.d (encT t)) (.d (.int ((pre.length + 1 + (prR (m, t)).length : Nat) : Int)))) rfl rfl ((seq_nx st).trans ((seq_nx (if_no c1)).trans ((seq_nx (if_no c2)).trans ((seq_nx (if_no c3)).trans ((seq_nx (if_no c4)).trans ((seq_nx st5).trans (seq_exc ((if_t cc).trans rfl))))))))
  · rw [if_neg z4]
    rw [decide_eq_false z4] at c4
    show fnM _ _ _ _ = _
    exact fn_exc (ρ0 := tteE T pre.length .no .no .no .no) (ρ' := tteE T pre.length (.d (.str (tx (s.take 1)))) .no .no .no) rfl rfl ((seq_nx st).trans ((seq_nx (if_no c1)).trans ((seq_nx (if_no c2)).trans ((seq_nx (if_no c3)).trans (seq_exc ((if_t c4).trans rfl))))))
theorem walk_all {T : List Nat} (hT : okT T = true) (hl : T.length ≤ 100000) : ∀ n, (∀ pre s, pre ++ s = T → TRel pre.length (pTree n s) (Mi.tree_from n [.d (.str (tx T)), .d (.int (pre.length : Int))])) ∧ (∀ pre s, pre ++ s = T → RRel pre.length (pRow n s) (Mi.row_from n [.d (.str (tx T)), .d (.int (pre.length : Int))])) ∧ (∀ pre s, 1 ≤ pre.length → pre ++ s = T → TRel (pre.length - 1) (pRows n s) (Mi.rows_from n [.d (.str (tx T)), .d (.int (pre.length : Int))]))
  | 0 => ⟨fun _ _ _ => trivial, fun _ _ _ => trivial, fun _ _ _ _ => trivial⟩
  | n + 1 => by
    obtain ⟨h1, h2, h3⟩ := walk_all hT hl n
    exact ⟨fun pre s e => tree_walk hT hl h2 h3 pre s e, fun pre s e => row_walk hT hl h1 pre s e, fun pre s hp e => rows_walk hT hl h2 pre s hp e⟩
end DL
end
section
namespace DL
open PySem PySem.Spec L2 DLS
open PyProof.Rows hiding St
/-! ### trees told -/
section
variable {y : Yd} {s : Int}
/-! holding -/
/-! depth -/
end
end DL
end
section
namespace DL
open PySem PySem.Spec L2 DLS
open PyProof.Rows hiding St
section
variable {y : Yd} {s : Int} {A : List Pos}
end
end DL
end
section
/-! how long the shown text of papers is -/
namespace DL
open PySem PySem.Spec L2 DLS
open PyProof.Rows hiding St
/-- shown in at most n signs -/
structure ShO (d : PyData) (n dp : Nat) : Prop where
  ok : d.showable = true
  le : d.shown.length ≤ n
  dp : d.depth ≤ dp
theorem ShO.mono {d : PyData} {n m a b : Nat} (h : ShO d n a) (h1 : n ≤ m) (h2 : a ≤ b) : ShO d m b := ⟨h.ok, Nat.le_trans h.le h1, Nat.le_trans h.dp h2⟩
theorem sh_int {i : Int} (h0 : 0 ≤ i) (h1 : i < 10 ^ 10) : ShO (.int i) 10 0 := by
  refine ⟨?_, toString_length_le h0 (by decide) h1, Nat.le_refl _⟩
  show decide (i.natAbs.log2 < 1920) = true
  rw [decide_eq_true_eq]
  by_cases z : i.natAbs = 0
  · rw [z]; decide
  · rw [Nat.log2_lt z]
    have : i.natAbs < 2 ^ 64 := by omega
    exact Nat.lt_trans this (Nat.pow_lt_pow_right (by decide) (by decide))
theorem sh_len {c : Nat} : ∀ {ds : List PyData}, (∀ d ∈ ds, d.shown.length ≤ c) → ∀ t ∈ PyData.shownAll ds, t.length ≤ c
  | [], _, t, h => by cases h
  | d :: ds, h, t, m => by
    rcases List.mem_cons.mp m with rfl | m
    · exact h d List.mem_cons_self
    · exact sh_len (fun x hx => h x (List.mem_cons_of_mem _ hx)) t m
theorem all_len : ∀ ds : List PyData, (PyData.shownAll ds).length = ds.length
  | [] => rfl
  | _ :: ds => congrArg (· + 1) (all_len ds)
theorem from_len {c : Nat} : ∀ (ts : List Str) (k : Nat) (acc : Str), (∀ t ∈ ts, t.length ≤ c) → (textFrom k acc ts).length ≤ acc.length + ts.length * (c + 2)
  | [], k, acc, _ => by show acc.length ≤ _; omega
  | t :: ts, k, acc, h => by
    have ih := from_len ts (k + 1) (acc ++ (if k > 0 then ", " else "" : String) ++ t) fun x hx => h x (List.mem_cons_of_mem _ hx)
    have ht := h t List.mem_cons_self
    have e : (acc ++ (if k > 0 then ", " else "" : String) ++ t).length ≤ acc.length + 2 + t.length := by
      rw [strLen_append, strLen_append]
      split
      · exact Nat.le_refl _
      · have : ((("" : String) : Str)).length = 0 := rfl
        omega
    show (textFrom (k + 1) _ ts).length ≤ _
    rw [List.length_cons, Nat.succ_mul]
    omega
theorem list_len {c : Nat} {ts : List Str} (h : ∀ t ∈ ts, t.length ≤ c) : (listText ts).length ≤ ts.length * (c + 2) + 2 := by
  unfold listText
  rw [strLen_append]
  have := from_len ts 0 "[" h
  have e1 : ((("[" : String) : Str)).length = 1 := rfl
  have e2 : ((("]" : String) : Str)).length = 1 := rfl
  omega
theorem join_len {c : Nat} : ∀ {ts : List Str}, (∀ t ∈ ts, t.length ≤ c) → (Str.join ", " ts).length ≤ ts.length * (c + 2)
  | [], _ => Nat.zero_le _
  | [t], h => by
    have := h t List.mem_cons_self
    show t.length ≤ 1 * (c + 2)
    omega
  | t :: u :: ts, h => by
    have ih := join_len (ts := u :: ts) fun x hx => h x (List.mem_cons_of_mem _ hx)
    have := h t List.mem_cons_self
    show (t ++ ", " ++ Str.join ", " (u :: ts)).length ≤ _
    rw [strLen_append, strLen_append, List.length_cons, Nat.succ_mul]
    have e : ((", " : String) : Str).length = 2 := rfl
    omega
theorem tup_len {c : Nat} {ts : List Str} (h : ∀ t ∈ ts, t.length ≤ c) : (tupleText ts).length ≤ ts.length * (c + 2) + 3 := by
  unfold tupleText
  rw [strLen_append, strLen_append]
  have := join_len h
  have e1 : ((("(" : String) : Str)).length = 1 := rfl
  split
  · have : (((",)" : String) : Str)).length = 2 := rfl
    omega
  · have : (((")" : String) : Str)).length = 1 := rfl
    omega
theorem showAll_of : ∀ {ds : List PyData}, (∀ d ∈ ds, d.showable = true) → PyData.showableAll ds = true
  | [], _ => rfl
  | d :: ds, h => by
    show (d.showable && PyData.showableAll ds) = true
    rw [h d List.mem_cons_self, showAll_of fun x hx => h x (List.mem_cons_of_mem _ hx)]; rfl
theorem depAll_of {n : Nat} : ∀ {ds : List PyData}, (∀ d ∈ ds, d.depth ≤ n) → PyData.depthAll ds ≤ n
  | [], _ => Nat.zero_le _
  | d :: ds, h => by
    have h1 := h d List.mem_cons_self
    have h2 := depAll_of fun x hx => h x (List.mem_cons_of_mem _ hx)
    show max d.depth (PyData.depthAll ds) ≤ n
    omega
theorem sh_tup {ds : List PyData} {n a : Nat} (h : ∀ d ∈ ds, ShO d n a) : ShO (.tuple ds) (ds.length * (n + 2) + 3) (a + 1) :=
  ⟨showAll_of fun d hd => (h d hd).ok, by
    have := tup_len (sh_len fun d hd => (h d hd).le)
    rw [all_len] at this; exact this, by
    have := depAll_of fun d hd => (h d hd).dp
    show PyData.depthAll ds + 1 ≤ a + 1
    omega⟩
theorem sh_lst {ds : List PyData} {n a : Nat} (h : ∀ d ∈ ds, ShO d n a) : ShO (.list ds) (ds.length * (n + 2) + 2) (a + 1) :=
  ⟨showAll_of fun d hd => (h d hd).ok, by
    have := list_len (sh_len fun d hd => (h d hd).le)
    rw [all_len] at this; exact this, by
    have := depAll_of fun d hd => (h d hd).dp
    show PyData.depthAll ds + 1 ≤ a + 1
    omega⟩
theorem toR_map {α : Type} (f : α → D) : ∀ xs : List α, toPyRL (xs.map f) = xs.map fun x => toPyR (f x)
  | [] => rfl
  | x :: xs => by rw [List.map_cons, toPyRL, toR_map f xs]; rfl
def cellSm (c : Cell) : Prop := (0 ≤ c.1 ∧ c.1 < 10) ∧ 0 ≤ c.2 ∧ c.2 < 10
theorem sh_cell {c : Cell} (h : cellSm c) : ShO (toPyR (enc c)) 27 1 := by
  rw [enc_cell]
  have a : ShO (.int c.1) 10 0 := sh_int h.1.1 (by have := h.1.2; omega)
  have b : ShO (.int c.2) 10 0 := sh_int h.2.1 (by have := h.2.2; omega)
  exact sh_tup (ds := [.int c.1, .int c.2]) fun d hd => by
    rcases List.mem_cons.mp hd with rfl | hd
    · exact a
    · rw [List.mem_singleton.mp hd]; exact b
end DL
end
section
/-! spoilt texts that are written -/
namespace DL
open PySem PySem.Spec L2
open PyProof.Rows hiding St
def BadT (s : Str) : Prop := Mi.read_tree [.d (.str s)] = .exc "BadText" []
theorem badT_way2 : BadT "[0.0-1.1 !|1.1-0.0 ?]" := chkX_ok (by kernel_rfl)
theorem badT3_0 : BadT "" := chkX_ok (by kernel_rfl)
theorem badT3_1 : BadT "[]" := chkX_ok (by kernel_rfl)
theorem badT3_2 : BadT "()" := chkX_ok (by kernel_rfl)
theorem badT3_3 : BadT "[0.0-1.1 !|]" := chkX_ok (by kernel_rfl)
theorem badT3_4 : BadT "(0.0-1.1 )" := chkX_ok (by kernel_rfl)
theorem badT3_5 : BadT "[|]" := chkX_ok (by kernel_rfl)
theorem badT3_6 : BadT "0.0-1.1 !" := chkX_ok (by kernel_rfl)
theorem badT3_7 : BadT "(0.0-1.1!)" := chkX_ok (by kernel_rfl)
theorem badT4_0 : BadT "(0.0-1.1  !)" := chkX_ok (by kernel_rfl)
theorem badT4_2 : BadT "( 0.0-1.1 !)" := chkX_ok (by kernel_rfl)
theorem badT4_3 : BadT "(0.0-1.1 ! )" := chkX_ok (by kernel_rfl)
theorem badT5_0 : BadT "(0.0-5.1 !)" := chkX_ok (by kernel_rfl)
theorem badT5_1 : BadT "(00.0-1.1 !)" := chkX_ok (by kernel_rfl)
theorem badT5_2 : BadT "(0.0 !)" := chkX_ok (by kernel_rfl)
theorem badT5_3 : BadT "(0.0-1.1-2.2 !)" := chkX_ok (by kernel_rfl)
theorem badT6_0 : BadT "(0.0-1.1 !]" := chkX_ok (by kernel_rfl)
theorem badT6_1 : BadT "[0.0-1.1 !)" := chkX_ok (by kernel_rfl)
theorem badT6_2 : BadT "{0.0-1.1 !}" := chkX_ok (by kernel_rfl)
theorem badT6_3 : BadT "(0.0-1.1 !|1.1-0.0 !)" := chkX_ok (by kernel_rfl)
end DL
end
section
namespace DL
open PySem PySem.Spec L2
open PyProof.Rows hiding St
def deepT (k : Int) : Str := Txt.mul "(0.0-1.1 " k ++ "!" ++ Txt.mul ")" k
theorem deep13 : BadT (deepT 13) := chkX_ok (by kernel_rfl)
theorem deep14 : BadT (deepT 14) := chkX_ok (by kernel_rfl)
theorem deep15 : BadT (deepT 15) := chkX_ok (by kernel_rfl)
theorem deep16 : BadT (deepT 16) := chkX_ok (by kernel_rfl)
theorem deep17 : BadT (deepT 17) := chkX_ok (by kernel_rfl)
theorem deep18 : BadT (deepT 18) := chkX_ok (by kernel_rfl)
theorem deep19 : BadT (deepT 19) := chkX_ok (by kernel_rfl)
theorem deep20 : BadT (deepT 20) := chkX_ok (by kernel_rfl)
theorem deep21 : BadT (deepT 21) := chkX_ok (by kernel_rfl)
end DL
end
section
/-! the law's own text of a tree -/
namespace DL
open PySem PySem.Spec L2 DLS
open PyProof.Rows hiding St
theorem one_line {m : Move} (h : okM m) : Mi.law_line_text [.d (.lst [enc m])] = .ok (.str (tx (mtL m))) [] := by
  obtain ⟨q, e1, e2⟩ := mq_of h
  rw [e1, e2]
  have := law_line_text_ap (ms := [q]) (by simp)
  have e : joinL 32 ([q].map mqL) = mqL q := by simp [joinL, tailP]
  unfold lineT at this
  rw [e] at this
  exact this
theorem law_tree_text_ap {n : Nat} {t : Tr} (h : WT n t) : n ≤ 4 → ∀ k, n < k → Mi.law_tree_text k [.d (encT t)] = .ok (.str (tx (prT t))) [] := by
  induction h with
  | won =>
    intro _ k hk
    obtain ⟨k, rfl⟩ : ∃ j, k = j + 1 := ⟨k - 1, by omega⟩
    rw [prT_won, encT_leaf, ← x_ex]
    have i0 : ixX (.tup [.str "won"]) (.int 0) = some (.str "won") := ix0 (.str Lf.won.str) []
    have s := s_ww
    have ln : lenG [.tup [.str "won"]] = some (.int 1) := rfl
    have ib : intCD [.bl true] = some (.int 1) := rfl
    have ix : ixX (.lst [.str "?", .str "!"]) (.int 1) = some (.str "!") := rfl
    show fnM _ _ _ _ = _
    refine fn_run (ρ0 := [.d (.tup [.str "won"]), .no, .no]) (ρ' := [.d (.tup [.str "won"]), .no, .no]) rfl rfl (seq_ret (if_ret (ρ' := [.d (.tup [.str "won"]), .no, .no]) (ρ'' := [.d (.tup [.str "won"]), .no, .no]) ?_ ?_))
    · simp [ln]
    · simp [i0, s, ib, ix, sizeLine_eq]
  | not =>
    intro _ k hk
    obtain ⟨k, rfl⟩ : ∃ j, k = j + 1 := ⟨k - 1, by omega⟩
    rw [prT_not, encT_leaf, ← x_qu]
    have i0 : ixX (.tup [.str "not"]) (.int 0) = some (.str "not") := ix0 (.str Lf.not.str) []
    have s := s_ln
    have ln : lenG [.tup [.str "not"]] = some (.int 1) := rfl
    have ib : intCD [.bl false] = some (.int 0) := rfl
    have ix : ixX (.lst [.str "?", .str "!"]) (.int 0) = some (.str "?") := rfl
    show fnM _ _ _ _ = _
    refine fn_run (ρ0 := [.d (.tup [.str "not"]), .no, .no]) (ρ' := [.d (.tup [.str "not"]), .no, .no]) rfl rfl (seq_ret (if_ret (ρ' := [.d (.tup [.str "not"]), .no, .no]) (ρ'' := [.d (.tup [.str "not"]), .no, .no]) ?_ ?_))
    · simp [ln]
    · simp [i0, s, ib, ix, sizeLine_eq]
  | @mv n m t hm ht ih =>
    intro hn k hk
    obtain ⟨k, rfl⟩ : ∃ j, k = j + 1 := ⟨k - 1, by omega⟩
    have ih := ih (by omega) k (by omega)
    have lt := prT_len ht
    have lb := lenB4 (n := n) (by omega)
    have lm : (mtL m).length = 7 := rfl
    have mt := one_line hm
    have ln : lenG [.tup [.str "move", enc m, encT t]] = some (.int 3) := rfl
    rw [prT_mv, encT_mv]
    have i0 := ix0 (.str "move") [enc m, encT t]
    have i1 := ix1 (.str "move") (enc m) [encT t]
    have i2 := ix2 (.str "move") (enc m) (encT t) []
    have a1 := addD_big (a := [40]) (b := mtL m) (by simp [lm])
    have a2 := addD_big (a := [40] ++ mtL m) (b := [32]) (by simp [lm])
    have a3 := addD_big (a := [40] ++ mtL m ++ [32]) (b := prT t) (by simp [lm]; omega)
    have a4 := addD_big (a := [40] ++ mtL m ++ [32] ++ prT t) (b := [41]) (by simp [lm]; omega)
    have e : 40 :: (mtL m ++ 32 :: (prT t ++ [41])) = [40] ++ mtL m ++ [32] ++ prT t ++ [41] := by simp
    rw [e]
    rw [← x_op] at a1
    rw [← s_blank] at a2
    rw [← x_cl] at a4
    have s1 := s_mw
    have s2 := s_mn
    have s3 := s_mm
    generalize [40] ++ mtL m ++ [32] ++ prT t ++ [41] = L4 at *
    generalize [40] ++ mtL m ++ [32] ++ prT t = L3 at *
    generalize [40] ++ mtL m ++ [32] = L2 at *
    generalize [40] ++ mtL m = L1 at *
    generalize D.tup [.str "move", enc m, encT t] = TT at *
    generalize tx (prT t) = PT at *
    generalize tx (mtL m) = MT at *
    generalize encT t = ET at *
    generalize (enc m : D) = EM at *
    show fnM _ _ _ _ = _
    refine fn_run (ρ0 := [.d TT, .no, .no]) (ρ' := [.d TT, .no, .no]) rfl rfl ((seq_nx (if_no (ρ' := [.d TT, .no, .no]) ?_)).trans (seq_ret (if_ret (ρ' := [.d TT, .no, .no]) (ρ'' := [.d TT, .no, .no]) ?_ ?_)))
    · simp [ln]
    · simp [i0, s3]
    · simp [i1, i2, mt, ih, a1, a2, a3, a4, sizeLine_eq]
  | @al n rs h1 h3 hm ht ih =>
    intro hn k hk
    obtain ⟨k, rfl⟩ : ∃ j, k = j + 1 := ⟨k - 1, by omega⟩
    have lb := lenB4 (n := n) (by omega)
    have lr : ∀ r ∈ rs, (prR r).length ≤ 1250 := fun r hr => by
      have := prT_len (ht r hr)
      have lm : (mtL r.1).length = 7 := rfl
      rw [prR_eq]; simp only [List.length_append, List.length_cons]; omega
    rw [prT_al, encT_al]
    have i0 := ix0 (.str "all") [.lst (rs.map encR)]
    have i1 := ix1 (.str "all") (.lst (rs.map encR)) []
    have ln : lenG [.tup [.str "all", .lst (rs.map encR)]] = some (.int 2) := rfl
    have c := comp_map (e := encR) (e' := fun r : Move × Tr => D.str (tx (prR r))) (it := itemsGM (op2 ixX (getM 0) (pureM (.int 1)))) (tg := tgU 2 (tgs1 (tgN 1) (tgs1 (tgN 2) (tgs0)))) (te := op2 addD (op2 addD (callM Mi.law_line_text (mdM [false] (consA (lstM (sizeM (consM (getM 1) (pureM [])))) (pureM [])))) (pureM (.str " "))) (callM (Mi.law_tree_text k) (mdM [false] (consA (getM 2) (pureM []))))) (vs := [1, 2]) (ρ := [.d (.tup [.str "all", .lst (rs.map encR)]), .no, .no]) rs id (by
        have ig : itemsG (.lst (rs.map encR)) = some (rs.map encR) := rfl
        generalize D.tup [.str "all", .lst (rs.map encR)] = TT at *
        generalize rs.map encR = L at *
        simp [i1, ig]) rfl (by rw [sizeLine_eq]; omega) (fun r hr => by
      have mt := one_line (hm r hr)
      have tt := ih r hr (by omega) k (by omega)
      have lt := prT_len (ht r hr)
      have lm : (mtL r.1).length = 7 := rfl
      have a1 := addD_big (a := mtL r.1) (b := [32]) (by simp [lm])
      have a2 := addD_big (a := mtL r.1 ++ [32]) (b := prT r.2) (by simp [lm]; omega)
      have e : prR r = mtL r.1 ++ [32] ++ prT r.2 := by rw [prR_eq]; simp
      rw [← s_blank] at a1
      refine ⟨[.d (.tup [.str "all", .lst (rs.map encR)]), .d (enc r.1), .d (encT r.2)], by rw [encR_eq]; rfl, rfl, rfl, [.d (.tup [.str "all", .lst (rs.map encR)]), .d (enc r.1), .d (encT r.2)], ?_, rfl, rfl⟩
      show _ = Res.ok (D.str (tx (prR r))) [.d (.tup [.str "all", .lst (rs.map encR)]), .d (enc r.1), .d (encT r.2)]
      rw [e]
      generalize D.tup [.str "all", .lst (rs.map encR)] = TT at *
      generalize mtL r.1 ++ [32] ++ prT r.2 = L3 at *
      generalize mtL r.1 ++ [32] = L2 at *
      generalize tx (mtL r.1) = MT at *
      generalize tx (prT r.2) = PT at *
      generalize encT r.2 = ET at *
      generalize (enc r.1 : D) = EM at *
      simp [mt, tt, a1, a2, sizeLine_eq])
    rw [List.map_id] at c
    have jn := joinD_big (c := 124) (ws := rs.map prR) 1250 (fun w hw => by obtain ⟨r, hr, rfl⟩ := List.mem_map.mp hw; exact lr r hr) (by omega) (by simpa using h3)
    have lj := joinL_bound 124 1250 (ws := rs.map prR) (fun w hw => by obtain ⟨r, hr, rfl⟩ := List.mem_map.mp hw; exact lr r hr)
    rw [List.length_map] at lj
    have : (1250 + 1) * rs.length ≤ (1250 + 1) * 3 := Nat.mul_le_mul_left _ h3
    have a1 := addD_big (a := [91]) (b := joinL 124 (rs.map prR)) (by simp only [List.length_cons, List.length_nil]; omega)
    have a2 := addD_big (a := [91] ++ joinL 124 (rs.map prR)) (b := [93]) (by simp only [List.length_append, List.length_cons, List.length_nil]; omega)
    have e : 91 :: (joinL 124 (rs.map prR) ++ [93]) = [91] ++ joinL 124 (rs.map prR) ++ [93] := by simp
    rw [e]
    rw [List.map_map] at jn
    have jn : joinD (.str (tx [124])) [.lst (rs.map fun r => D.str (tx (prR r)))] = some (.str (tx (joinL 124 (rs.map prR)))) := jn
    rw [← x_ba] at jn
    rw [← x_bo] at a1
    rw [← x_bc] at a2
    have s1 := s_aw
    have s2 := s_an
    have s3 := s_am
    generalize [91] ++ joinL 124 (rs.map prR) ++ [93] = L3 at *
    generalize [91] ++ joinL 124 (rs.map prR) = L2 at *
    generalize tx (joinL 124 (rs.map prR)) = L1 at *
    generalize D.tup [.str "all", .lst (rs.map encR)] = TT at *
    generalize (rs.map fun r => D.str (tx (prR r))) = RR at *
    show fnM _ _ _ _ = _
    refine fn_run (ρ0 := [.d TT, .no, .no]) (ρ' := [.d TT, .no, .no]) rfl rfl ((seq_nx (if_no (ρ' := [.d TT, .no, .no]) ?_)).trans ((seq_nx (if_no (ρ' := [.d TT, .no, .no]) ?_)).trans (ret_ok (ρ' := [.d TT, .no, .no]) ?_)))
    · simp [ln]
    · simp [i0, s3]
    · generalize (compO (itemsGM (op2 ixX (getM 0) (pureM (.int 1)))) (tgU 2 (tgs1 (tgN 1) (tgs1 (tgN 2) (tgs0)))) (pureM true) (op2 addD (op2 addD (callM Mi.law_line_text (mdM [false] (consA (lstM (sizeM (consM (getM 1) (pureM [])))) (pureM [])))) (pureM (.str " "))) (callM (Mi.law_tree_text k) (mdM [false] (consA (getM 2) (pureM []))))) [1, 2]) = CC at *
      simp [mtV, tyM_ap', tyD_str, c, jn, a1, a2]
end DL
end
section
/-! the law's trees -/
namespace DL
open PySem PySem.Spec L2 DLS
open PyProof.Rows hiding St
def tbE (c : Int) (l : Lf) (d : Int) (R : D) (s4 s5 s6 s7 : Sl) : DL.Env := [.d (.int c), .d (.str l.str), .d (.int d), .d R, s4, s5, s6, s7]
theorem mod5 (x : Int) : 0 ≤ x % 5 ∧ x % 5 < 5 := ⟨Int.emod_nonneg _ (by decide), Int.emod_lt_of_pos _ (by decide)⟩
theorem modD_c (x m : Int) (hm : 0 < m) : modD (.int x) (.int m) = some (.int (x % m)) := by simp [modD, intD, hm]
theorem law_tree_by_ap (l : Lf) (hl : l = .won ∨ l = .not) : ∀ (d : Nat) (c : Int) (k : Nat), d < k → ∃ t, WT d t ∧ isT l t = true ∧ Mi.law_tree_by k [.d (.int c), .d (.str l.str), .d (.int (d : Int))] = .ok (encT t) [] := by
  intro d
  induction d with
  | zero =>
    intro c k hk
    obtain ⟨k, rfl⟩ : ∃ j, k = j + 1 := ⟨k - 1, by omega⟩
    obtain ⟨row, _, _, re⟩ := law_list_ap c 8 60 (by decide) (by decide) (by decide)
    have re : Mi.law_list [.d (.int c), .d (.int 8), .d (.int 60)] = .ok (.lst (row.map D.int)) [] := re
    refine ⟨.leaf l, by rcases hl with rfl | rfl; exact .won; exact .not, by rw [isT_leaf]; simp, ?_⟩
    rw [encT_leaf]
    generalize D.lst (row.map D.int) = R at *
    show fnM _ _ _ _ = _
    refine fn_run (ρ0 := [.d (.int c), .d (.str l.str), .d (.int 0), .no, .no, .no, .no, .no]) (ρ' := tbE c l 0 R .no .no .no .no) rfl rfl ((seq_nx (ρ' := tbE c l 0 R .no .no .no .no) ?_).trans (seq_ret (if_ret (ρ' := tbE c l 0 R .no .no .no .no) (ρ'' := tbE c l 0 R .no .no .no .no) ?_ rfl)))
    · unfold tbE; simp [re]
    · unfold tbE; simp
  | succ d ih =>
    intro c k hk
    obtain ⟨k, rfl⟩ : ∃ j, k = j + 1 := ⟨k - 1, by omega⟩
    obtain ⟨row, rl, rb, re⟩ := law_list_ap c 8 60 (by decide) (by decide) (by decide)
    have re : Mi.law_list [.d (.int c), .d (.int 8), .d (.int 60)] = .ok (.lst (row.map D.int)) [] := re
    have at8 : ∀ j : Nat, j < 8 → ∃ x : Int, ixX (.lst (row.map .int)) (.int j) = some (.int x) := fun j hj => ⟨_, ints_at row j (by omega)⟩
    obtain ⟨x0, e0⟩ := at8 0 (by decide)
    obtain ⟨x1, e1⟩ := at8 1 (by decide)
    obtain ⟨x2, e2⟩ := at8 2 (by decide)
    obtain ⟨x3, e3⟩ := at8 3 (by decide)
    obtain ⟨x4, e4⟩ := at8 4 (by decide)
    obtain ⟨x5, e5⟩ := at8 5 (by decide)
    obtain ⟨x6, e6⟩ := at8 6 (by decide)
    obtain ⟨x7, e7⟩ := at8 7 (by decide)
    have pw : powD (.int 10) (.int 6) = some (.int 1000000) := by kernel_rfl
    have e0 : ixX (.lst (row.map .int)) (.int 0) = some (.int x0) := e0
    have e1 : ixX (.lst (row.map .int)) (.int 1) = some (.int x1) := e1
    have e2 : ixX (.lst (row.map .int)) (.int 2) = some (.int x2) := e2
    have e3 : ixX (.lst (row.map .int)) (.int 3) = some (.int x3) := e3
    have e4 : ixX (.lst (row.map .int)) (.int 4) = some (.int x4) := e4
    have e5 : ixX (.lst (row.map .int)) (.int 5) = some (.int x5) := e5
    have e6 : ixX (.lst (row.map .int)) (.int 6) = some (.int x6) := e6
    have e7 : ixX (.lst (row.map .int)) (.int 7) = some (.int x7) := e7
    have m4 := modD_c x0 4 (by decide)
    have m51 := modD_c x1 5 (by decide)
    have m52 := modD_c x2 5 (by decide)
    have m53 := modD_c x3 5 (by decide)
    have m54 := modD_c x4 5 (by decide)
    have m56 := modD_c x6 5 (by decide)
    have m57 := modD_c x7 5 (by decide)
    have m3 := modD_c x5 3 (by decide)
    have dn : ¬ (((d + 1 : Nat) : Int) = 0) := by omega
    have sb : subD (.int ((d + 1 : Nat) : Int)) (.int 1) = some (.int (d : Int)) := by
      show some (D.int (((d + 1 : Nat) : Int) - 1)) = _
      congr 2; omega
    generalize D.lst (row.map D.int) = R at *
    have st0 : ∀ s4 s5 s6 s7, setM 3 (callM Mi.law_list (mdM [false, false, false] (consA (getM 0) (consA (pureM (.int 8)) (consA (pureM (.int 60)) (pureM [])))))) [.d (.int c), .d (.str l.str), .d (.int ((d + 1 : Nat) : Int)), .no, s4, s5, s6, s7] = .ok .nx (tbE c l ((d + 1 : Nat) : Int) R s4 s5 s6 s7) := fun s4 s5 s6 s7 => by
      unfold tbE
      generalize ((d + 1 : Nat) : Int) = DD at *
      simp [re]
    by_cases h0 : x0 % 4 = 0
    · refine ⟨.leaf l, by rcases hl with rfl | rfl; exact .won; exact .not, by rw [isT_leaf]; simp, ?_⟩
      rw [encT_leaf]
      show fnM _ _ _ _ = _
      refine fn_run (ρ0 := [.d (.int c), .d (.str l.str), .d (.int ((d + 1 : Nat) : Int)), .no, .no, .no, .no, .no]) (ρ' := tbE c l ((d + 1 : Nat) : Int) R .no .no .no .no) rfl rfl ((seq_nx (st0 _ _ _ _)).trans (seq_ret (if_ret (ρ' := tbE c l ((d + 1 : Nat) : Int) R .no .no .no .no) (ρ'' := tbE c l ((d + 1 : Nat) : Int) R .no .no .no .no) ?_ rfl)))
      unfold tbE
      generalize ((d + 1 : Nat) : Int) = DD at *
      simp [dn, e0, m4, h0]
    · let mvv : Move := ((x1 % 5, x2 % 5), (x3 % 5, x4 % 5))
      have okm : okM mvv := ⟨mod5 _, mod5 _, mod5 _, mod5 _⟩
      have MV : D.tup [.tup [.int (x1 % 5), .int (x2 % 5)], .tup [.int (x3 % 5), .int (x4 % 5)]] = enc mvv := rfl
      have st1 : ∀ b s4 s5 s6 s7, ifM (orM (boolM (op2 eqD (getM 2) (pureM (.int 0)))) (boolM (op2 eqD (op2 modD (op2 ixX (getM 3) (pureM (.int 0))) (pureM (.int 4))) (pureM (.int 0))))) b skipM (tbE c l ((d + 1 : Nat) : Int) R s4 s5 s6 s7) = .ok .nx (tbE c l ((d + 1 : Nat) : Int) R s4 s5 s6 s7) := fun b s4 s5 s6 s7 => by
        refine (if_f (ρ' := tbE c l ((d + 1 : Nat) : Int) R s4 s5 s6 s7) ?_).trans rfl
        unfold tbE
        generalize ((d + 1 : Nat) : Int) = DD at *
        simp [dn, e0, m4, h0]
      have st2 : ∀ s5 s6 s7, setM 4 (tupM (consM (tupM (consM (op2 modD (op2 ixX (getM 3) (pureM (.int 1))) (pureM (.int 5))) (consM (op2 modD (op2 ixX (getM 3) (pureM (.int 2))) (pureM (.int 5))) (pureM [])))) (consM (tupM (consM (op2 modD (op2 ixX (getM 3) (pureM (.int 3))) (pureM (.int 5))) (consM (op2 modD (op2 ixX (getM 3) (pureM (.int 4))) (pureM (.int 5))) (pureM [])))) (pureM [])))) (tbE c l ((d + 1 : Nat) : Int) R .no s5 s6 s7) = .ok .nx (tbE c l ((d + 1 : Nat) : Int) R (.d (enc mvv)) s5 s6 s7) := fun s5 s6 s7 => by
        rw [← MV]
        unfold tbE
        generalize x1 % 5 = y1 at *
        generalize x2 % 5 = y2 at *
        generalize x3 % 5 = y3 at *
        generalize x4 % 5 = y4 at *
        simp [-modD_int, e1, e2, e3, e4, m51, m52, m53, m54]
      by_cases h1 : x0 % 4 = 1
      · obtain ⟨r, _, _, er⟩ := law_mix_ap c 9 1000000 (by decide) (by decide)
        obtain ⟨t, wt, it, et⟩ := ih r k (by omega)
        refine ⟨.mv mvv t, .mv okm wt, by rw [isT_mv]; exact it, ?_⟩
        rw [encT_mv]
        show fnM _ _ _ _ = _
        refine fn_run (ρ0 := [.d (.int c), .d (.str l.str), .d (.int ((d + 1 : Nat) : Int)), .no, .no, .no, .no, .no]) (ρ' := tbE c l ((d + 1 : Nat) : Int) R (.d (enc mvv)) .no .no .no) rfl rfl ((seq_nx (st0 _ _ _ _)).trans ((seq_nx (st1 _ _ _ _ _)).trans ((seq_nx (st2 _ _ _)).trans (seq_ret (if_ret (ρ' := tbE c l ((d + 1 : Nat) : Int) R (.d (enc mvv)) .no .no .no) (ρ'' := tbE c l ((d + 1 : Nat) : Int) R (.d (enc mvv)) .no .no .no) ?_ ?_)))))
        · unfold tbE
          simp [-modD_int, e0, m4, h1]
        · unfold tbE
          generalize ((d + 1 : Nat) : Int) = DD at *
          generalize (enc mvv : D) = EM at *
          generalize encT t = ET at *
          simp [-subD_int, sb, pw, er, et]
      · obtain ⟨N, hN, hN3⟩ : ∃ N : Nat, x5 % 3 = (N : Int) ∧ N < 3 := by
          have := Int.emod_nonneg x5 (show (3 : Int) ≠ 0 by decide)
          have := Int.emod_lt_of_pos x5 (show (0 : Int) < 3 by decide)
          exact ⟨(x5 % 3).toNat, by omega, by omega⟩
        have a1 : addD (.int 1) (.int (x5 % 3)) = some (.int ((N + 1 : Nat) : Int)) := by
          show some (D.int (1 + x5 % 3)) = _
          rw [hN]; congr 2; omega
        let body : MS := seqM (setM 7 (tupM (consM (tupM (consM (getM 6) (consM (op2 modD (op2 ixX (getM 3) (pureM (.int 6))) (pureM (.int 5))) (pureM [])))) (consM (tupM (consM (op2 modD (op2 ixX (getM 3) (pureM (.int 7))) (pureM (.int 5))) (consM (getM 6) (pureM [])))) (pureM []))))) (dropM (mtO 5 appD (consM (tupM (consM (getM 7) (consM (callM (Mi.law_tree_by k) (mdM [false, false, false] (consA (callM Mi.law_mix (mdM [false, false, false] (consA (getM 0) (consA (op2 addD (pureM (.int 20)) (getM 6)) (consA (op2 powD (pureM (.int 10)) (pureM (.int 6))) (pureM [])))))) (consA (getM 1) (consA (op2 subD (getM 2) (pureM (.int 1))) (pureM [])))))) (pureM [])))) (pureM []))))
        obtain ⟨ρ', h2, rs, lr, okr, wtr, s6, s7, rfl⟩ := forM_rng (tg := tgN 6) (body := body) (fun (j : Nat) ρ => ∃ rs : List (Move × Tr), rs.length = j ∧ (∀ r ∈ rs, okM r.1) ∧ (∀ r ∈ rs, WT d r.2 ∧ isT l r.2 = true) ∧ ∃ s6 s7, ρ = tbE c l ((d + 1 : Nat) : Int) R (.d (enc mvv)) (.cell (.l (rs.map encR))) s6 s7) (N + 1) (tbE c l ((d + 1 : Nat) : Int) R (.d (enc mvv)) (.cell (.l [])) .no .no) ⟨[], rfl, by simp, by simp, .no, .no, rfl⟩ (by
          rintro j ρ hj ⟨rs, lr, okr, wtr, s6, s7, rfl⟩
          obtain ⟨r, _, _, er⟩ := law_mix_ap c (20 + j) 1000000 (by omega) (by decide)
          obtain ⟨t, wt, it, et⟩ := ih r k (by omega)
          let om : Move := (((j : Int), x6 % 5), (x7 % 5, (j : Int)))
          have oko : okM om := ⟨⟨by show (0 : Int) ≤ (j : Int); omega, by show (j : Int) < 5; omega⟩, mod5 _, mod5 _, ⟨by show (0 : Int) ≤ (j : Int); omega, by show (j : Int) < 5; omega⟩⟩
          have OM : D.tup [.tup [.int (j : Int), .int (x6 % 5)], .tup [.int (x7 % 5), .int (j : Int)]] = enc om := rfl
          have a20 : addD (.int 20) (.int (j : Int)) = some (.int (20 + (j : Int))) := rfl
          have hz : (rs.map encR).length < sizeLine := by rw [sizeLine_eq, List.length_map]; omega
          have em : (rs ++ [(om, t)]).map encR = rs.map encR ++ [.tup [enc om, encT t]] := by rw [List.map_append, List.map_cons, List.map_nil, encR_eq]
          refine ⟨tbE c l ((d + 1 : Nat) : Int) R (.d (enc mvv)) (.cell (.l (rs.map encR))) (.d (.int (j : Int))) s7, tbE c l ((d + 1 : Nat) : Int) R (.d (enc mvv)) (.cell (.l ((rs ++ [(om, t)]).map encR))) (.d (.int (j : Int))) (.d (enc om)), rfl, ?_, rs ++ [(om, t)], by simp [lr], fun q hq => ?_, fun q hq => ?_, _, _, rfl⟩
          · rw [em, ← OM]
            show seqM _ _ _ = _
            refine (seq_nx (ρ' := tbE c l ((d + 1 : Nat) : Int) R (.d (enc mvv)) (.cell (.l (rs.map encR))) (.d (.int (j : Int))) (.d (D.tup [.tup [.int (j : Int), .int (x6 % 5)], .tup [.int (x7 % 5), .int (j : Int)]]))) ?_).trans ?_
            · unfold tbE
              generalize x6 % 5 = y6 at *
              generalize x7 % 5 = y7 at *
              generalize rs.map encR = RL at *
              generalize (enc mvv : D) = EM at *
              simp [-modD_int, e6, e7, m56, m57]
            · unfold tbE
              generalize D.tup [.tup [.int (j : Int), .int (x6 % 5)], .tup [.int (x7 % 5), .int (j : Int)]] = OMD at *
              generalize rs.map encR = RL at *
              generalize (enc mvv : D) = EM at *
              generalize ((d + 1 : Nat) : Int) = DD at *
              generalize encT t = ET at *
              generalize 20 + (j : Int) = j20 at *
              simp [-subD_int, -addD_int, sb, pw, a20, er, et, appD, hz]
          · rcases List.mem_append.mp hq with h | h
            · exact okr q h
            · simp at h; rw [h]; exact oko
          · rcases List.mem_append.mp hq with h | h
            · exact wtr q h
            · simp at h; rw [h]; exact ⟨wt, it⟩)
        refine ⟨.al rs, .al (by omega) (by omega) okr fun r hr => (wtr r hr).1, ?_, ?_⟩
        · rw [isT_al]
          have h1 : (rs.all fun r => isT l r.2) = true := List.all_eq_true.mpr fun r hr => (wtr r hr).2
          have h2 : rs.isEmpty = false := by cases rs with | nil => simp at lr | cons a b => rfl
          rw [h1, h2]; rfl
        · rw [encT_al]
          show fnM _ _ _ _ = _
          refine fn_run (ρ0 := [.d (.int c), .d (.str l.str), .d (.int ((d + 1 : Nat) : Int)), .no, .no, .no, .no, .no]) (ρ' := tbE c l ((d + 1 : Nat) : Int) R (.d (enc mvv)) (.d (.lst (rs.map encR))) s6 s7) rfl rfl ((seq_nx (st0 _ _ _ _)).trans ((seq_nx (st1 _ _ _ _ _)).trans ((seq_nx (st2 _ _ _)).trans ((seq_nx (if_no (ρ' := tbE c l ((d + 1 : Nat) : Int) R (.d (enc mvv)) .no .no .no) ?_)).trans ((seq_nx (ρ' := tbE c l ((d + 1 : Nat) : Int) R (.d (enc mvv)) (.cell (.l [])) .no .no) ?_).trans ((seq_nx (ρ' := tbE c l ((d + 1 : Nat) : Int) R (.d (enc mvv)) (.cell (.l (rs.map encR))) s6 s7) ?_).trans (ret_ok ?_)))))))
          · unfold tbE
            generalize x0 % 4 = x04 at *
            generalize (enc mvv : D) = EM at *
            generalize ((d + 1 : Nat) : Int) = DD at *
            simp [-modD_int, e0, m4, h1]
          · unfold tbE
            generalize (enc mvv : D) = EM at *
            generalize ((d + 1 : Nat) : Int) = DD at *
            simp [sizeLine_eq]
          · rw [forD_ap]
            have r := rg1_nat (N + 1) (by omega)
            have it : rg1M (consM (op2 addD (pureM (.int 1)) (op2 modD (op2 ixX (getM 3) (pureM (.int 5))) (pureM (.int 3)))) (pureM [])) (tbE c l ((d + 1 : Nat) : Int) R (.d (enc mvv)) (.cell (.l [])) .no .no) = .ok ((List.range (N + 1)).map fun (i : Nat) => D.int (0 + (i : Int))) (tbE c l ((d + 1 : Nat) : Int) R (.d (enc mvv)) (.cell (.l [])) .no .no) := by
              unfold tbE
              generalize (enc mvv : D) = EM at *
              generalize ((d + 1 : Nat) : Int) = DD at *
              generalize x5 % 3 = x53 at *
              generalize ((N + 1 : Nat) : Int) = N1 at *
              generalize (List.range (N + 1)).map (fun (i : Nat) => D.int (0 + (i : Int))) = RR at *
              simp [-modD_int, -addD_int, e5, m3, a1, r]
            rw [it]
            exact h2
          · unfold tbE
            generalize (enc mvv : D) = EM at *
            generalize ((d + 1 : Nat) : Int) = DD at *
            generalize rs.map encR = RL at *
            simp [ocD]
end DL
end
section
/-! k71: what is read, what is refused -/
namespace DL
open PySem PySem.Spec L2 DLS
open PyProof.Rows hiding St
def ls0 : MS := setM 2 (op2 modD (getM 1) (pureM (.int 8)))
def ls1 : MS := setM 3 (op2 modD (op2 divD (getM 1) (pureM (.int 8))) (callD lenG (consM (getM 0) (pureM []))))
def ls2 : MS := ifM (boolM (op2 eqD (getM 2) (pureM (.int 0)))) (retM (op2 addD (slM (getM 0) (pureM none) (partM (getM 3))) (slM (getM 0) (partM (op2 addD (getM 3) (pureM (.int 1)))) (pureM none)))) skipM
def ls3 : MS := ifM (boolM (op2 eqD (getM 2) (pureM (.int 1)))) (retM (op2 addD (getM 0) (op2 ixX (lstM (sizeM (consM (pureM (.str "!")) (consM (pureM (.str " ")) (consM (pureM (.str "]")) (consM (pureM (.str ")")) (consM (pureM (.str "?")) (consM (pureM (.str "|")) (pureM []))))))))) (op2 modD (op2 divD (getM 1) (pureM (.int 8))) (pureM (.int 6)))))) skipM
def ls4 : MS := ifM (boolM (op2 eqD (getM 2) (pureM (.int 2)))) (retM (pureM (.str "[0.0-1.1 !|1.1-0.0 ?]"))) skipM
def ls5 : MS := ifM (boolM (op2 eqD (getM 2) (pureM (.int 3)))) (retM (op2 ixX (lstM (sizeM (consM (pureM (.str "")) (consM (pureM (.str "[]")) (consM (pureM (.str "()")) (consM (pureM (.str "[0.0-1.1 !|]")) (consM (pureM (.str "(0.0-1.1 )")) (consM (pureM (.str "[|]")) (consM (pureM (.str "0.0-1.1 !")) (consM (pureM (.str "(0.0-1.1!)")) (pureM []))))))))))) (op2 modD (op2 divD (getM 1) (pureM (.int 8))) (pureM (.int 8))))) skipM
def ls6 : MS := ifM (boolM (op2 eqD (getM 2) (pureM (.int 4)))) (retM (op2 ixX (lstM (sizeM (consM (pureM (.str "(0.0-1.1  !)")) (consM (op2 addD (pureM (.str " ")) (getM 0)) (consM (pureM (.str "( 0.0-1.1 !)")) (consM (pureM (.str "(0.0-1.1 ! )")) (pureM []))))))) (op2 modD (op2 divD (getM 1) (pureM (.int 8))) (pureM (.int 4))))) skipM
def ls7 : MS := ifM (boolM (op2 eqD (getM 2) (pureM (.int 5)))) (retM (op2 ixX (lstM (sizeM (consM (pureM (.str "(0.0-5.1 !)")) (consM (pureM (.str "(00.0-1.1 !)")) (consM (pureM (.str "(0.0 !)")) (consM (pureM (.str "(0.0-1.1-2.2 !)")) (pureM []))))))) (op2 modD (op2 divD (getM 1) (pureM (.int 8))) (pureM (.int 4))))) skipM
def ls8 : MS := ifM (boolM (op2 eqD (getM 2) (pureM (.int 6)))) (retM (op2 ixX (lstM (sizeM (consM (pureM (.str "(0.0-1.1 !]")) (consM (pureM (.str "[0.0-1.1 !)")) (consM (pureM (.str "{0.0-1.1 !}")) (consM (pureM (.str "(0.0-1.1 !|1.1-0.0 !)")) (pureM []))))))) (op2 modD (op2 divD (getM 1) (pureM (.int 8))) (pureM (.int 4))))) skipM
def ls9 : MS := retM (op2 addD (op2 addD (op2 mulTD (pureM (.str "(0.0-1.1 ")) (op2 addD (pureM (.int 13)) (op2 modD (op2 divD (getM 1) (pureM (.int 8))) (pureM (.int 9))))) (pureM (.str "!"))) (op2 mulTD (pureM (.str ")")) (op2 addD (pureM (.int 13)) (op2 modD (op2 divD (getM 1) (pureM (.int 8))) (pureM (.int 9))))))
theorem ls_eq : Mi.law_spoilt = fnM false 4 (seqM ls0 (seqM ls1 (seqM ls2 (seqM ls3 (seqM ls4 (seqM ls5 (seqM ls6 (seqM ls7 (seqM ls8 ls9))))))))) := rfl
def rt0 : MS := ifM (boolM (op2 gtA (op2 addD (mtV "str" countTD (getM 0) (consM (pureM (.str "(")) (pureM []))) (mtV "str" countTD (getM 0) (consM (pureM (.str "[")) (pureM [])))) (pureM (.int 400)))) (raiseM "BadText") skipM
def rt1 : MS := asgM (callM (Mi.tree_from 140) (mdM [false, false] (consA (getM 0) (consA (pureM (.int 0)) (pureM []))))) (tgU 2 (tgs1 (tgN 1) (tgs1 (tgN 2) tgs0)))
def rt2 : MS := ifM (boolM (op2 neD (getM 2) (callD lenG (consM (getM 0) (pureM []))))) (raiseM "BadText") skipM
def rt3 : MS := tryNX (subT tab "BadPaper") (setM 3 (callM Mi.depth2 (mdM [false] (consA (getM 1) (pureM []))))) (raiseM "BadText")
def rt4 : MS := ifM (boolM (op2 gtA (getM 3) (pureM (.int 12)))) (raiseM "BadText") skipM
def rt5 : MS := retM (getM 1)
theorem rt_eq : Mi.read_tree = fnM false 4 (seqM rt0 (seqM rt1 (seqM rt2 (seqM rt3 (seqM rt4 rt5))))) := rfl
theorem cnt_opens : ∀ l : List Nat, cnt 40 l + cnt 91 l = (opens l : Int)
  | [] => rfl
  | c :: l => by
    have ih := cnt_opens l
    rw [cnt_cons, cnt_cons, opens_cons]
    by_cases h : c = 40
    · subst h; simp; omega
    · by_cases h2 : c = 91
      · subst h2; simp; omega
      · simp [h, h2]; omega
theorem count_tx (l : List Nat) (c : Nat) : Txt.count (tx l) (tx [c]) = cnt c l := by
  have := count_is (tx l) c
  have e : (tx l).cps.toList = l := by unfold tx; simp
  rw [e] at this
  exact this
theorem ce2_eq : Mi.check_either2 = fnM false 1 (ifM (andM (notM (boolM (callM (Mi.is_tree 40) (mdM [false, false] (consA (getM 0) (consA (pureM (.str "won")) (pureM []))))))) (notM (boolM (callM (Mi.is_tree 40) (mdM [false, false] (consA (getM 0) (consA (pureM (.str "not")) (pureM [])))))))) (raiseM "BadPaper") skipM) := rfl
def dep2_1 : MS := retM (callM (Mi.depth_of 40) (mdM [false] (consA (getM 0) (pureM []))))
def dep2_0 : MS := dropM (callM Mi.check_either2 (mdM [false] (consA (getM 0) (pureM []))))
theorem dep2_eq : Mi.depth2 = fnM false 1 (seqM dep2_0 dep2_1) := rfl
theorem depth2_ap (l : Lf) (hl : l = .won ∨ l = .not) {h : Nat} {t : Tr} (hb : TB h t) (hh : h < 16) (hT : isT l t = true) : Mi.depth2 [.d (encT t)] = .ok (.int (dpt t : Int)) [] := by
  have i1 : Mi.is_tree 40 [.d (encT t), .d (.str "won")] = _ := is_tree_ap .won hb (by omega) (by omega)
  have i2 : Mi.is_tree 40 [.d (encT t), .d (.str "not")] = _ := is_tree_ap .not hb (by omega) (by omega)
  have dd := depth_of_ap l hb hT (k := 40) (by omega)
  have or : isT .won t = true ∨ isT .not t = true := by rcases hl with rfl | rfl; exact .inl hT; exact .inr hT
  have key : Fp (Mi.depth2 [.d (encT t)]) (fun d os => d = .int (dpt t : Int) ∧ os = []) (fun _ _ => False) := by
    have ce : Mi.check_either2 [.d (encT t)] = .ok .non [] := by
      have key : Fp (Mi.check_either2 [.d (encT t)]) (fun d os => d = .non ∧ os = []) (fun _ _ => False) := by
        rw [ce2_eq, Fp_fnM]
        generalize encT t = T at *
        rcases or with h | h
        · simp [i1, h]
        · cases h2 : isT .won t <;> simp [i1, i2, h, h2]
      obtain ⟨_, _, e, rfl, rfl⟩ := Fp_ok' key
      exact e
    rw [dep2_eq, Fp_fnM]
    unfold dep2_0 dep2_1
    generalize encT t = T at *
    simp [ce, dd]
  obtain ⟨_, _, e, rfl, rfl⟩ := Fp_ok' key
  exact e
def rtE (T : List Nat) (s1 s2 s3 : Sl) : DL.Env := [.d (.str (tx T)), s1, s2, s3]
section
variable {T : List Nat}
theorem rt0_ap (ho : opens T ≤ 400) (s1 s2 s3 : Sl) : rt0 (rtE T s1 s2 s3) = .ok .nx (rtE T s1 s2 s3) := by
  have c1 : countTD (.str (tx T)) [.str "("] = some (.int (cnt 40 T)) := by rw [x_op, ← count_tx]; rfl
  have c2 : countTD (.str (tx T)) [.str "["] = some (.int (cnt 91 T)) := by rw [x_bo, ← count_tx]; rfl
  have s := cnt_opens T
  have le : ¬ (400 < cnt 40 T + cnt 91 T) := by omega
  unfold rt0
  refine if_no ?_
  unfold rtE
  generalize cnt 40 T = a at *
  generalize cnt 91 T = b at *
  generalize tx T = S at *
  simp [mtV, tyM_ap', tyD_str, c1, c2, le]
theorem read_bad (hT : okT T = true) (hl : T.length ≤ 100000) (hl2 : T.length < 100000) (ho : opens T ≤ 40) (h : ∀ t r, pTree 140 T = .ok (t, r) → r ≠ []) : BadT (tx T) := by
  have wa := (walk_all hT hl 140).1 [] T rfl
  have no := (no_out 140).1 T (by omega) hl2
  have a0 := rt0_ap (T := T) (by omega) .no .no .no
  show Mi.read_tree _ = _
  rw [rt_eq]
  have wa : TRel 0 (pTree 140 T) (Mi.tree_from 140 [.d (.str (tx T)), .d (.int 0)]) := wa
  cases e : pTree 140 T with
  | out => exact absurd e no
  | bad =>
    rw [e] at wa
    have wa : Mi.tree_from 140 [.d (.str (tx T)), .d (.int 0)] = .exc "BadText" [] := wa
    refine fn_exc (ρ0 := rtE T .no .no .no) (ρ' := rtE T .no .no .no) rfl rfl ((seq_nx a0).trans (seq_exc ?_))
    unfold rt1 rtE
    generalize tx T = S at *
    simp [wa]
  | ok q =>
    obtain ⟨t, r⟩ := q
    rw [e] at wa
    have wa : Mi.tree_from 140 [.d (.str (tx T)), .d (.int 0)] = .ok (.tup [encT t, .int ((0 + (prT t).length : Nat) : Int)]) [] := wa
    have hr := h t r e
    obtain ⟨_, es⟩ := (sound_all 140).1 _ _ _ e
    have lT := congrArg List.length es
    rw [List.length_append] at lT
    have lr : 0 < r.length := List.length_pos_iff.mpr hr
    have ln := len_big (l := T) (by omega)
    have ne : ¬ (((0 + (prT t).length : Nat) : Int) = (T.length : Int)) := by omega
    have a1 : rt1 (rtE T .no .no .no) = .ok .nx (rtE T (.d (encT t)) (.d (.int ((0 + (prT t).length : Nat) : Int))) .no) := by
      unfold rt1 rtE
      generalize ((0 + (prT t).length : Nat) : Int) = P at *
      generalize tx T = S at *
      generalize encT t = ET at *
      simp [wa, tgU_ap]
    refine fn_exc (ρ0 := rtE T .no .no .no) (ρ' := rtE T (.d (encT t)) (.d (.int ((0 + (prT t).length : Nat) : Int))) .no) rfl rfl ((seq_nx a0).trans ((seq_nx a1).trans (seq_exc ?_)))
    unfold rt2
    refine (if_t (ρ' := rtE T (.d (encT t)) (.d (.int ((0 + (prT t).length : Nat) : Int))) .no) ?_).trans rfl
    unfold rtE
    generalize ((0 + (prT t).length : Nat) : Int) = P at *
    generalize (T.length : Int) = L at *
    generalize tx T = S at *
    generalize encT t = ET at *
    simp [ln, ne]
end
theorem okT_mt {m : Move} (h : okM m) : okT (mtL m) = true := by
  obtain ⟨⟨h1, h2⟩, ⟨h3, h4⟩, ⟨h5, h6⟩, ⟨h7, h8⟩⟩ := h
  simp [okT, mtL]; omega
theorem okT_tail2 : ∀ {ws : List (List Nat)}, (∀ w ∈ ws, okT w = true) → okT (tailP 124 ws) = true
  | [], _ => rfl
  | y :: ys, h => okT_app (a := [124]) rfl (okT_app (h y (by simp)) (okT_tail2 fun w hw => h w (by simp [hw])))
theorem okT_RT {t : Tr} (h : RT t) : okT (prT t) = true := by
  induction h with
  | won => rw [prT_won]; rfl
  | not => rw [prT_not]; rfl
  | mv om _ ih =>
    rw [prT_mv]
    exact okT_app (a := [40]) rfl (okT_app (okT_mt om) (okT_app (a := [32]) rfl (okT_app ih rfl)))
  | @al rs h1 hm hr ih =>
    rw [prT_al]
    have hw : ∀ w ∈ rs.map prR, okT w = true := fun w hw => by
      obtain ⟨r, hr, rfl⟩ := List.mem_map.mp hw
      rw [prR_eq]
      exact okT_app (okT_mt (hm r hr)) (okT_app (a := [32]) rfl (ih r hr))
    cases rs with
    | nil => simp at h1
    | cons x rs =>
      refine okT_app (a := [91]) rfl (okT_app (okT_app (hw (prR x) (by simp)) (okT_tail2 fun w h => hw w (by simp only [List.map_cons, List.mem_cons]; exact .inr h))) rfl)
theorem WT_TB {n : Nat} {t : Tr} (h : WT n t) : TB n t := by
  induction h with
  | won => exact .leaf _
  | not => exact .leaf _
  | mv om _ ih => exact .mv _ ih
  | al h1 h3 hm _ ih => exact .al (by omega) ih
theorem dpt_WT {n : Nat} {t : Tr} (h : WT n t) : dpt t ≤ n := by
  induction h with
  | won => rw [dpt_leaf]; omega
  | not => rw [dpt_leaf]; omega
  | mv om _ ih => rw [dpt_mv]; omega
  | al h1 h3 hm _ ih => rw [dpt_al]; have := dptL_le ih; omega
section
variable {t : Tr} (w : WT 4 t)
include w
theorem len4 : (prT t).length ≤ 1242 := Nat.le_trans (prT_len w) (lenB4 (Nat.le_refl _))
theorem open4 : opens (prT t) ≤ 40 := opens_WT w
theorem ok4 : okT (prT t) = true := okT_RT (WT_RT w)
theorem read_ok {l : Lf} (hl : l = .won ∨ l = .not) (hT : isT l t = true) : Mi.read_tree [.d (.str (tx (prT t)))] = .ok (encT t) [] := by
  have ll := len4 w
  have lo := open4 w
  have lk := ok4 w
  have wa := (walk_all lk (by omega) 140).1 [] (prT t) rfl
  have rd := reads_tree w 140 [] (by omega)
  rw [List.append_nil] at rd
  rw [rd] at wa
  have wa : Mi.tree_from 140 [.d (.str (tx (prT t))), .d (.int 0)] = .ok (.tup [encT t, .int ((0 + (prT t).length : Nat) : Int)]) [] := wa
  rw [Nat.zero_add] at wa
  have ln := len_big (l := prT t) (by omega)
  have a0 := rt0_ap (T := prT t) (by omega) .no .no .no
  have dp := depth2_ap l hl (WT_TB w) (by decide) hT
  have dl := dpt_WT w
  have dl' : ¬ (12 < (dpt t : Int)) := by omega
  rw [rt_eq]
  generalize prT t = T at *
  have a1 : rt1 (rtE T .no .no .no) = .ok .nx (rtE T (.d (encT t)) (.d (.int (T.length : Int))) .no) := by
    unfold rt1 rtE
    generalize (T.length : Int) = P at *
    generalize tx T = S at *
    generalize encT t = ET at *
    simp [wa, tgU_ap]
  have a2 : rt2 (rtE T (.d (encT t)) (.d (.int (T.length : Int))) .no) = .ok .nx (rtE T (.d (encT t)) (.d (.int (T.length : Int))) .no) := by
    unfold rt2
    refine if_no ?_
    unfold rtE
    generalize (T.length : Int) = P at *
    generalize tx T = S at *
    generalize encT t = ET at *
    simp [ln]
  have a3 : rt3 (rtE T (.d (encT t)) (.d (.int (T.length : Int))) .no) = .ok .nx (rtE T (.d (encT t)) (.d (.int (T.length : Int))) (.d (.int (dpt t : Int)))) := by
    have : setM 3 (callM Mi.depth2 (mdM [false] (consA (getM 1) (pureM [])))) (rtE T (.d (encT t)) (.d (.int (T.length : Int))) .no) = .ok .nx (rtE T (.d (encT t)) (.d (.int (T.length : Int))) (.d (.int (dpt t : Int)))) := by
      unfold rtE
      generalize (T.length : Int) = P at *
      generalize (dpt t : Int) = DT at *
      generalize tx T = S at *
      generalize encT t = ET at *
      simp [dp]
    unfold rt3 tryNX
    rw [this]
  have a4 : rt4 (rtE T (.d (encT t)) (.d (.int (T.length : Int))) (.d (.int (dpt t : Int)))) = .ok .nx (rtE T (.d (encT t)) (.d (.int (T.length : Int))) (.d (.int (dpt t : Int)))) := by
    unfold rt4
    refine if_no ?_
    unfold rtE
    generalize (T.length : Int) = P at *
    generalize (dpt t : Int) = DT at *
    generalize tx T = S at *
    generalize encT t = ET at *
    simp [dl']
  exact fn_run (ρ0 := rtE T .no .no .no) (ρ' := rtE T (.d (encT t)) (.d (.int (T.length : Int))) (.d (.int (dpt t : Int)))) rfl rfl ((seq_nx a0).trans ((seq_nx a1).trans ((seq_nx a2).trans ((seq_nx a3).trans ((seq_nx a4).trans rfl)))))
/-- a sign left out -/
theorem bad_less (k : Nat) (hk : k < (prT t).length) : BadT (tx ((prT t).take k ++ (prT t).drop (k + 1))) := by
  have ll := len4 w
  have lo := open4 w
  have l2 : ((prT t).take k ++ (prT t).drop (k + 1)).length ≤ (prT t).length := by simp; omega
  refine read_bad (okT_of (ok4 w) fun x hx => ?_) (by omega) (by omega) (Nat.le_trans (opens_less _ _) lo) fun t' r e z => ?_
  · rcases List.mem_append.mp hx with h | h
    · exact List.mem_of_mem_take h
    · exact List.mem_of_mem_drop h
  · subst z
    obtain ⟨r', es⟩ := (sound_all 140).1 _ _ _ e
    rw [List.append_nil] at es
    exact less_one (WT_RT w) r' k hk es.symm
/-- a sign more behind it -/
theorem bad_more (c : Nat) (hc : c < 256) (h2 : ¬ (c = 40 ∨ c = 91)) : BadT (tx (prT t ++ [c])) := by
  have ll := len4 w
  have lo := open4 w
  have rd := reads_tree w 140 [c] (by omega)
  have e0 : opens [c] = 0 := by
    have := opens_cons c []
    rw [if_neg h2] at this
    exact this
  refine read_bad (okT_app (ok4 w) ?_) (by simp; omega) (by simp; omega) (by rw [opens_app, e0]; omega) fun t' r e => ?_
  · simp [okT, hc]
  · rw [rd] at e
    simp only [PR.ok.injEq, Prod.mk.injEq] at e
    rw [← e.2]; simp
/-- a blank at the front -/
theorem bad_front : BadT (tx ([32] ++ prT t)) := by
  have ll := len4 w
  have lo := open4 w
  refine read_bad (okT_app (a := [32]) rfl (ok4 w)) (by simp; omega) (by simp; omega) ?_ fun t' r e => ?_
  · have e0 : opens [32] = 0 := rfl
    rw [opens_app, e0]; omega
  · rw [pTree_s] at e
    unfold pTreeF at e
    rw [if_neg (by simp), if_neg (by simp), if_neg (by simp), if_neg (by simp)] at e
    cases e
end
def lsE (T : List Nat) (c : Int) (s2 s3 : Sl) : DL.Env := [.d (.str (tx T)), .d (.int c), s2, s3]
theorem spoilt71 {t : Tr} (w : WT 4 t) (c : Int) : ∃ s, Mi.law_spoilt [.d (.str (tx (prT t))), .d (.int c)] = .ok (.str s) [] ∧ BadT s := by
  have ll := len4 w
  have b0 := bad_less w
  have b1 := bad_more w
  have b4 := bad_front w
  have lp : 0 < (prT t).length := by
    have := sumW_RT (WT_RT w)
    cases e : prT t with
    | nil => rw [e] at this; cases this
    | cons a b => simp
  generalize prT t = T at *
  have w0 : 0 ≤ c % 8 := Int.emod_nonneg _ (by decide)
  have w8 : c % 8 < 8 := Int.emod_lt_of_pos _ (by decide)
  have m8 : modD (.int c) (.int 8) = some (.int (c % 8)) := by simp [modD, intD]
  have d8 : divD (.int c) (.int 8) = some (.int (c / 8)) := by simp [divD, intD, CDiv]
  have ln := len_big (l := T) (by omega)
  have a0 : 0 ≤ c / 8 % (T.length : Int) := Int.emod_nonneg _ (by omega)
  have a1 : c / 8 % (T.length : Int) < T.length := Int.emod_lt_of_pos _ (by omega)
  obtain ⟨k, hk⟩ : ∃ k : Nat, c / 8 % (T.length : Int) = (k : Int) := ⟨(c / 8 % (T.length : Int)).toNat, by omega⟩
  have kl : k < T.length := by omega
  have ma : modD (.int (c / 8)) (.int (T.length : Int)) = some (.int (k : Int)) := by
    have lp' : (0 : Int) < T.length := by omega
    rw [← hk]
    show (if 0 < (T.length : Int) then some (D.int ((c / 8) % (T.length : Int))) else none) = _
    rw [if_pos lp']
  have mm : ∀ m : Int, 0 < m → modD (.int (c / 8)) (.int m) = some (.int (c / 8 % m)) := fun m hm => by simp [modD, intD, hm]
  have mr : ∀ m : Nat, 0 < m → ∃ j : Nat, c / 8 % (m : Int) = (j : Int) ∧ j < m := fun m hm => by
    have h1 : 0 ≤ c / 8 % (m : Int) := Int.emod_nonneg _ (by omega)
    have h2 : c / 8 % (m : Int) < m := Int.emod_lt_of_pos _ (by omega)
    exact ⟨(c / 8 % (m : Int)).toNat, by omega, by omega⟩
  generalize hw : c % 8 = W at *
  generalize hc8 : c / 8 = C8 at *
  have stA : ls0 (lsE T c .no .no) = .ok .nx (lsE T c (.d (.int W)) .no) := by
    unfold ls0 lsE
    generalize tx T = S at *
    simp [-modD_int, m8]
  have stB : ls1 (lsE T c (.d (.int W)) .no) = .ok .nx (lsE T c (.d (.int W)) (.d (.int (k : Int)))) := by
    unfold ls1 lsE
    generalize tx T = S at *
    generalize (T.length : Int) = L at *
    simp [-modD_int, -divD_int, d8, ln, ma]
  have skip : ∀ (j : Int) (b : MS), W ≠ j → ifM (boolM (op2 eqD (getM 2) (pureM (.int j)))) b skipM (lsE T c (.d (.int W)) (.d (.int (k : Int)))) = .ok .nx (lsE T c (.d (.int W)) (.d (.int (k : Int)))) := fun j b hj => by
    refine if_no ?_
    unfold lsE
    generalize tx T = S at *
    simp [hj]
  have take : ∀ (j : Int) (f : M D) (d : D), W = j → f (lsE T c (.d (.int W)) (.d (.int (k : Int)))) = .ok d (lsE T c (.d (.int W)) (.d (.int (k : Int)))) → ifM (boolM (op2 eqD (getM 2) (pureM (.int j)))) (retM f) skipM (lsE T c (.d (.int W)) (.d (.int (k : Int)))) = .ok (.ret d) (lsE T c (.d (.int W)) (.d (.int (k : Int)))) := fun j f d hj hf => by
    refine if_ret (ρ' := lsE T c (.d (.int W)) (.d (.int (k : Int)))) ?_ hf
    unfold lsE
    generalize tx T = S at *
    simp [hj]
  have run : ∀ d, seqM ls2 (seqM ls3 (seqM ls4 (seqM ls5 (seqM ls6 (seqM ls7 (seqM ls8 ls9)))))) (lsE T c (.d (.int W)) (.d (.int (k : Int)))) = .ok (.ret d) (lsE T c (.d (.int W)) (.d (.int (k : Int)))) → Mi.law_spoilt [.d (.str (tx T)), .d (.int c)] = .ok d [] := fun d h => by
    rw [ls_eq]
    exact fn_run (ρ0 := lsE T c .no .no) rfl rfl ((seq_nx stA).trans ((seq_nx stB).trans h))
  by_cases h0 : W = 0
  · refine ⟨tx (T.take k ++ T.drop (k + 1)), run _ (seq_ret (take 0 _ _ h0 ?_)), b0 k kl⟩
    have c1 := cut_to_big T k (by omega)
    have c2 := cut_from_big T (k + 1) (by omega) (by omega)
    have ad : addD (.int (k : Int)) (.int 1) = some (.int ((k + 1 : Nat) : Int)) := rfl
    have aa := addD_big (a := T.take k) (b := T.drop (k + 1)) (by simp; omega)
    unfold lsE
    generalize tx (T.take k ++ T.drop (k + 1)) = S0 at *
    generalize tx (T.take k) = S1 at *
    generalize tx (T.drop (k + 1)) = S2 at *
    generalize tx T = S at *
    generalize ((k + 1 : Nat) : Int) = K1 at *
    generalize (k : Int) = K at *
    simp [-addD_int, c1, c2, ad, aa]
  by_cases h1 : W = 1
  · obtain ⟨j, hj, j6⟩ := mr 6 (by decide)
    have hj : C8 % 6 = (j : Int) := hj
    have m6 := mm 6 (by decide)
    rw [hj] at m6
    have key : ∀ x : Nat, x < 256 → ¬ (x = 40 ∨ x = 91) → ixX (.lst [.str "!", .str " ", .str "]", .str ")", .str "?", .str "|"]) (.int (j : Int)) = some (.str (tx [x])) → ∃ s, Mi.law_spoilt [.d (.str (tx T)), .d (.int c)] = .ok (.str s) [] ∧ BadT s := fun x hx hx2 ix => by
      refine ⟨tx (T ++ [x]), run _ ((seq_nx (skip 0 _ h0)).trans (seq_ret (take 1 _ _ h1 ?_))), b1 x hx hx2⟩
      have aa := addD_big (a := T) (b := [x]) (by simp; omega)
      unfold lsE
      generalize tx (T ++ [x]) = S0 at *
      generalize tx [x] = S1 at *
      generalize tx T = S at *
      generalize (k : Int) = K at *
      generalize (j : Int) = J at *
      simp [-modD_int, -divD_int, d8, m6, ix, aa, sizeLine_eq]
    have : j = 0 ∨ j = 1 ∨ j = 2 ∨ j = 3 ∨ j = 4 ∨ j = 5 := by omega
    rcases this with rfl | rfl | rfl | rfl | rfl | rfl
    · exact key 33 (by decide) (by decide) (by rw [← x_ex]; rfl)
    · exact key 32 (by decide) (by decide) (by rw [← s_blank]; rfl)
    · exact key 93 (by decide) (by decide) (by rw [← x_bc]; rfl)
    · exact key 41 (by decide) (by decide) (by rw [← x_cl]; rfl)
    · exact key 63 (by decide) (by decide) (by rw [← x_qu]; rfl)
    · exact key 124 (by decide) (by decide) (by rw [← x_ba]; rfl)
  by_cases h2 : W = 2
  · exact ⟨_, run _ ((seq_nx (skip 0 _ h0)).trans ((seq_nx (skip 1 _ h1)).trans (seq_ret (take 2 _ _ h2 rfl)))), badT_way2⟩
  by_cases h3 : W = 3
  · obtain ⟨j, hj, j8⟩ := mr 8 (by decide)
    have hj : C8 % 8 = (j : Int) := hj
    have m6 := mm 8 (by decide)
    rw [hj] at m6
    have key : ∀ s : Str, BadT s → ixX (.lst [.str "", .str "[]", .str "()", .str "[0.0-1.1 !|]", .str "(0.0-1.1 )", .str "[|]", .str "0.0-1.1 !", .str "(0.0-1.1!)"]) (.int (j : Int)) = some (.str s) → ∃ s, Mi.law_spoilt [.d (.str (tx T)), .d (.int c)] = .ok (.str s) [] ∧ BadT s := fun s bs ix => by
      refine ⟨s, run _ ((seq_nx (skip 0 _ h0)).trans ((seq_nx (skip 1 _ h1)).trans ((seq_nx (skip 2 _ h2)).trans (seq_ret (take 3 _ _ h3 ?_))))), bs⟩
      unfold lsE
      generalize tx T = S at *
      generalize (k : Int) = K at *
      generalize (j : Int) = J at *
      simp [-modD_int, -divD_int, d8, m6, ix, sizeLine_eq]
    have : j = 0 ∨ j = 1 ∨ j = 2 ∨ j = 3 ∨ j = 4 ∨ j = 5 ∨ j = 6 ∨ j = 7 := by omega
    rcases this with rfl | rfl | rfl | rfl | rfl | rfl | rfl | rfl
    · exact key _ badT3_0 rfl
    · exact key _ badT3_1 rfl
    · exact key _ badT3_2 rfl
    · exact key _ badT3_3 rfl
    · exact key _ badT3_4 rfl
    · exact key _ badT3_5 rfl
    · exact key _ badT3_6 rfl
    · exact key _ badT3_7 rfl
  by_cases h4 : W = 4
  · obtain ⟨j, hj, j8⟩ := mr 4 (by decide)
    have hj : C8 % 4 = (j : Int) := hj
    have m6 := mm 4 (by decide)
    rw [hj] at m6
    have aa := addD_big (a := [32]) (b := T) (by simp; omega)
    rw [← s_blank] at aa
    have key : ∀ s : Str, BadT s → ixX (.lst [.str "(0.0-1.1  !)", .str (tx ([32] ++ T)), .str "( 0.0-1.1 !)", .str "(0.0-1.1 ! )"]) (.int (j : Int)) = some (.str s) → ∃ s, Mi.law_spoilt [.d (.str (tx T)), .d (.int c)] = .ok (.str s) [] ∧ BadT s := fun s bs ix => by
      refine ⟨s, run _ ((seq_nx (skip 0 _ h0)).trans ((seq_nx (skip 1 _ h1)).trans ((seq_nx (skip 2 _ h2)).trans ((seq_nx (skip 3 _ h3)).trans (seq_ret (take 4 _ _ h4 ?_)))))), bs⟩
      unfold lsE
      generalize tx ([32] ++ T) = S1 at *
      generalize tx T = S at *
      generalize (k : Int) = K at *
      generalize (j : Int) = J at *
      simp [-modD_int, -divD_int, d8, m6, aa, ix, sizeLine_eq]
    have : j = 0 ∨ j = 1 ∨ j = 2 ∨ j = 3 := by omega
    rcases this with rfl | rfl | rfl | rfl
    · exact key _ badT4_0 rfl
    · exact key _ b4 rfl
    · exact key _ badT4_2 rfl
    · exact key _ badT4_3 rfl
  by_cases h5 : W = 5
  · obtain ⟨j, hj, j8⟩ := mr 4 (by decide)
    have hj : C8 % 4 = (j : Int) := hj
    have m6 := mm 4 (by decide)
    rw [hj] at m6
    have key : ∀ s : Str, BadT s → ixX (.lst [.str "(0.0-5.1 !)", .str "(00.0-1.1 !)", .str "(0.0 !)", .str "(0.0-1.1-2.2 !)"]) (.int (j : Int)) = some (.str s) → ∃ s, Mi.law_spoilt [.d (.str (tx T)), .d (.int c)] = .ok (.str s) [] ∧ BadT s := fun s bs ix => by
      refine ⟨s, run _ ((seq_nx (skip 0 _ h0)).trans ((seq_nx (skip 1 _ h1)).trans ((seq_nx (skip 2 _ h2)).trans ((seq_nx (skip 3 _ h3)).trans ((seq_nx (skip 4 _ h4)).trans (seq_ret (take 5 _ _ h5 ?_))))))), bs⟩
      unfold lsE
      generalize tx T = S at *
      generalize (k : Int) = K at *
      generalize (j : Int) = J at *
      simp [-modD_int, -divD_int, d8, m6, ix, sizeLine_eq]
    have : j = 0 ∨ j = 1 ∨ j = 2 ∨ j = 3 := by omega
    rcases this with rfl | rfl | rfl | rfl
    · exact key _ badT5_0 rfl
    · exact key _ badT5_1 rfl
    · exact key _ badT5_2 rfl
    · exact key _ badT5_3 rfl
  by_cases h6 : W = 6
  · obtain ⟨j, hj, j8⟩ := mr 4 (by decide)
    have hj : C8 % 4 = (j : Int) := hj
    have m6 := mm 4 (by decide)
    rw [hj] at m6
    have key : ∀ s : Str, BadT s → ixX (.lst [.str "(0.0-1.1 !]", .str "[0.0-1.1 !)", .str "{0.0-1.1 !}", .str "(0.0-1.1 !|1.1-0.0 !)"]) (.int (j : Int)) = some (.str s) → ∃ s, Mi.law_spoilt [.d (.str (tx T)), .d (.int c)] = .ok (.str s) [] ∧ BadT s := fun s bs ix => by
      refine ⟨s, run _ ((seq_nx (skip 0 _ h0)).trans ((seq_nx (skip 1 _ h1)).trans ((seq_nx (skip 2 _ h2)).trans ((seq_nx (skip 3 _ h3)).trans ((seq_nx (skip 4 _ h4)).trans ((seq_nx (skip 5 _ h5)).trans (seq_ret (take 6 _ _ h6 ?_)))))))), bs⟩
      unfold lsE
      generalize tx T = S at *
      generalize (k : Int) = K at *
      generalize (j : Int) = J at *
      simp [-modD_int, -divD_int, d8, m6, ix, sizeLine_eq]
    have : j = 0 ∨ j = 1 ∨ j = 2 ∨ j = 3 := by omega
    rcases this with rfl | rfl | rfl | rfl
    · exact key _ badT6_0 rfl
    · exact key _ badT6_1 rfl
    · exact key _ badT6_2 rfl
    · exact key _ badT6_3 rfl
  · obtain ⟨j, hj, j9⟩ := mr 9 (by decide)
    have hj : C8 % 9 = (j : Int) := hj
    have m6 := mm 9 (by decide)
    rw [hj] at m6
    have key : ∀ n : Int, BadT (deepT n) → addD (.int 13) (.int (j : Int)) = some (.int n) → (mulTD (.str "(0.0-1.1 ") (.int n) = some (.str (Txt.mul "(0.0-1.1 " n)) ∧ addD (.str (Txt.mul "(0.0-1.1 " n)) (.str "!") = some (.str (Txt.mul "(0.0-1.1 " n ++ "!")) ∧ mulTD (.str ")") (.int n) = some (.str (Txt.mul ")" n)) ∧ addD (.str (Txt.mul "(0.0-1.1 " n ++ "!")) (.str (Txt.mul ")" n)) = some (.str (deepT n))) → ∃ s, Mi.law_spoilt [.d (.str (tx T)), .d (.int c)] = .ok (.str s) [] ∧ BadT s := fun n bs an ⟨e1, e2, e3, e4⟩ => by
      refine ⟨_, run _ ((seq_nx (skip 0 _ h0)).trans ((seq_nx (skip 1 _ h1)).trans ((seq_nx (skip 2 _ h2)).trans ((seq_nx (skip 3 _ h3)).trans ((seq_nx (skip 4 _ h4)).trans ((seq_nx (skip 5 _ h5)).trans ((seq_nx (skip 6 _ h6)).trans ?_))))))), bs⟩
      unfold ls9
      refine ret_ok ?_
      unfold lsE
      generalize deepT n = DN at *
      generalize (Txt.mul "(0.0-1.1 " n ++ "!" : Str) = D2 at *
      generalize Txt.mul "(0.0-1.1 " n = D1 at *
      generalize Txt.mul ")" n = D3 at *
      generalize tx T = S at *
      generalize (k : Int) = K at *
      generalize (j : Int) = J at *
      simp [-modD_int, -divD_int, -addD_int, d8, m6, an, e1, e2, e3, e4]
    have : j = 0 ∨ j = 1 ∨ j = 2 ∨ j = 3 ∨ j = 4 ∨ j = 5 ∨ j = 6 ∨ j = 7 ∨ j = 8 := by omega
    rcases this with rfl | rfl | rfl | rfl | rfl | rfl | rfl | rfl | rfl
    · exact key 13 deep13 rfl ⟨by kernel_rfl, by kernel_rfl, by kernel_rfl, by kernel_rfl⟩
    · exact key 14 deep14 rfl ⟨by kernel_rfl, by kernel_rfl, by kernel_rfl, by kernel_rfl⟩
    · exact key 15 deep15 rfl ⟨by kernel_rfl, by kernel_rfl, by kernel_rfl, by kernel_rfl⟩
    · exact key 16 deep16 rfl ⟨by kernel_rfl, by kernel_rfl, by kernel_rfl, by kernel_rfl⟩
    · exact key 17 deep17 rfl ⟨by kernel_rfl, by kernel_rfl, by kernel_rfl, by kernel_rfl⟩
    · exact key 18 deep18 rfl ⟨by kernel_rfl, by kernel_rfl, by kernel_rfl, by kernel_rfl⟩
    · exact key 19 deep19 rfl ⟨by kernel_rfl, by kernel_rfl, by kernel_rfl, by kernel_rfl⟩
    · exact key 20 deep20 rfl ⟨by kernel_rfl, by kernel_rfl, by kernel_rfl, by kernel_rfl⟩
    · exact key 21 deep21 rfl ⟨by kernel_rfl, by kernel_rfl, by kernel_rfl, by kernel_rfl⟩
end DL
end
section
/-! k71: the law -/
namespace DL
open PySem PySem.Spec L2 DLS
open PyProof.Rows hiding St
def lw0 : MS := setM 1 (callM Mi.law_cell_at (mdM [false, false] (consA (getM 0) (consA (pureM (.int 1)) (pureM [])))))
def lw1 : MS := setM 2 (callM (Mi.law_tree_by 16) (mdM [false, false, false] (consA (callM Mi.law_cell_at (mdM [false, false] (consA (getM 0) (consA (pureM (.int 0)) (pureM []))))) (consA (op2 ixX (lstM (sizeM (consM (pureM (.str "won")) (consM (pureM (.str "not")) (pureM []))))) (op2 modD (getM 1) (pureM (.int 2)))) (consA (pureM (.int 4)) (pureM []))))))
def lw2 : MS := setM 3 (callM (Mi.law_tree_text 16) (mdM [false] (consA (getM 2) (pureM []))))
def lw3 : MS := setM 4 (reprM (getM 2))
def lw4 : MS := setM 5 (callM Mi.tree_text (mdM [false] (consA (getM 2) (pureM []))))
def lw5 : MS := ifM (orM (notM (boolM (isiM "str" (getM 5)))) (orM (boolM (op2 neD (getM 5) (getM 3))) (boolM (op2 neSD (reprM (getM 2)) (getM 4))))) (retM (pureM (.bl false))) skipM
def lw6 : MS := ifM (boolM (op2 gtA (op2 modD (op2 divD (getM 1) (pureM (.int 2))) (pureM (.int 3))) (pureM (.int 0)))) (retM (callM Mi.law_refused (mdM [false] (consA (callM Mi.law_spoilt (mdM [false, false] (consA (getM 3) (consA (op2 divD (getM 1) (pureM (.int 6))) (pureM []))))) (pureM []))))) skipM
def lw7 : MS := setM 6 (tupM (consM (tupM (consM (pureM (.int 0)) (consM (pureM (.int 0)) (pureM [])))) (consM (tupM (consM (pureM (.int 1)) (consM (pureM (.int 1)) (pureM [])))) (pureM []))))
def lw8 : MS := setM 7 (tupM (consM (pureM (.str "all")) (consM (lstM (sizeM (consM (tupM (consM (getM 6) (consM (tupM (consM (pureM (.str "won")) (pureM []))) (pureM [])))) (consM (tupM (consM (tupM (consM (tupM (consM (pureM (.int 1)) (consM (pureM (.int 1)) (pureM [])))) (consM (tupM (consM (pureM (.int 0)) (consM (pureM (.int 0)) (pureM [])))) (pureM [])))) (consM (tupM (consM (pureM (.str "not")) (pureM []))) (pureM [])))) (pureM []))))) (pureM []))))
def lw9_b : MS := ifM (notM (boolM (callM Mi.law_none (mdM [false] (consA (getM 8) (pureM [])))))) (retM (pureM (.bl false))) skipM
def lw9 : MS := forD (itemsGM (lstM (sizeM (consM (getM 7) (consM (tupM (consM (pureM (.str "all")) (consM (lstM (sizeM (pureM []))) (pureM [])))) (consM (tupM (consM (pureM (.str "move")) (consM (getM 6) (consM (getM 7) (pureM []))))) (consM (tupM (consM (pureM (.str "lost")) (pureM []))) (pureM [])))))))) (tgN 8) lw9_b
def lw10 : MS := setM 9 (callM Mi.read_tree (mdM [false] (consA (getM 3) (pureM []))))
def lw11 : MS := retM (andV (isiM "tuple" (getM 9)) (op2 eqSD (reprM (getM 9)) (getM 4)))
theorem lw_eq : Mi.law = fnM false 10 (seqM lw0 (seqM lw1 (seqM lw2 (seqM lw3 (seqM lw4 (seqM lw5 (seqM lw6 (seqM lw7 (seqM lw8 (seqM lw9 (seqM lw10 lw11))))))))))) := rfl
theorem refused_ap {S : Str} (h : BadT S) : Mi.law_refused [.d (.str S)] = .ok (.bl true) [] := by
  have s1 : subT tab "BadText" "BadText" = some true := by kernel_rfl
  have s2 : subT tab "YardError" "BadText" = some true := by kernel_rfl
  have s3 : ((tab.lookup ("BadText" : Str)).map fun _ => true) = some true := by kernel_rfl
  unfold BadT at h
  unfold Mi.law_refused
  simp [h, s1, s2, s3]
  rfl
theorem tt_eq : Mi.tree_text = fnM false 1 (seqM (dropM (callM Mi.depth2 (mdM [false] (consA (getM 0) (pureM []))))) (retM (callM (Mi.text_of 16) (mdM [false] (consA (getM 0) (pureM [])))))) := rfl
theorem tree_text_ap {l : Lf} (hl : l = .won ∨ l = .not) {t : Tr} (w : WT 4 t) (hT : isT l t = true) : Mi.tree_text [.d (encT t)] = .ok (.str (tx (prT t))) [] := by
  have dp := depth2_ap l hl (WT_TB w) (by decide) hT
  have to := text_of_ap w (Nat.le_refl _) 16 (by decide)
  rw [tt_eq]
  refine fn_run (ρ0 := [.d (encT t)]) (ρ' := [.d (encT t)]) rfl rfl ((seq_nx (ρ' := [.d (encT t)]) ?_).trans (ret_ok ?_))
  · generalize encT t = ET at *
    simp [dp]
  · generalize encT t = ET at *
    generalize tx (prT t) = S at *
    simp [to]
/-! ### how long a shown tree is -/
def shB : Nat → Nat
  | 0 => 61
  | n + 1 => 12 * shB n + 65
theorem shB_pos : ∀ n, 61 ≤ shB n
  | 0 => Nat.le_refl _
  | n + 1 => by unfold shB; have := shB_pos n; omega
theorem sh_txt (l : Lf) : ShO (.str l.str) 10 0 := by
  cases l
  · exact ⟨rfl, by decide +kernel, Nat.le_refl _⟩
  · exact ⟨rfl, by decide +kernel, Nat.le_refl _⟩
  · exact ⟨rfl, by decide +kernel, Nat.le_refl _⟩
theorem sh_move {m : Move} (h : okM m) : ShO (toPyR (enc m)) 61 2 := by
  obtain ⟨h1, h2, h3, h4⟩ := h
  have a : ShO (toPyR (enc m.1)) 27 1 := sh_cell ⟨⟨h1.1, by have := h1.2; omega⟩, h2.1, by have := h2.2; omega⟩
  have b : ShO (toPyR (enc m.2)) 27 1 := sh_cell ⟨⟨h3.1, by have := h3.2; omega⟩, h4.1, by have := h4.2; omega⟩
  exact sh_tup (ds := [toPyR (enc m.1), toPyR (enc m.2)]) fun d hd => by
    rcases List.mem_cons.mp hd with rfl | hd
    · exact a
    · rw [List.mem_singleton.mp hd]; exact b
theorem sh_wd {s : Str} (h : s = "move" ∨ s = "all") {n a : Nat} (hn : 61 ≤ n) : ShO (.str s) n a := by
  rcases h with rfl | rfl
  · exact ⟨rfl, Nat.le_trans (show (PyData.shown (.str "move")).length ≤ 61 by decide +kernel) hn, Nat.zero_le _⟩
  · exact ⟨rfl, Nat.le_trans (show (PyData.shown (.str "all")).length ≤ 61 by decide +kernel) hn, Nat.zero_le _⟩
theorem sh_WT {n : Nat} {t : Tr} (h : WT n t) : ShO (toPyR (encT t)) (shB n) (3 * n + 2) := by
  have leaf : ∀ (n : Nat) (l : Lf), ShO (toPyR (encT (.leaf l))) (shB n) (3 * n + 2) := fun n l => by
    rw [encT_leaf]
    have := shB_pos n
    exact (sh_tup (ds := [.str l.str]) (n := 10) (a := 0) fun d hd => by rw [List.mem_singleton.mp hd]; exact sh_txt l).mono (by simp only [List.length_cons, List.length_nil]; omega) (by omega)
  induction h with
  | won => exact leaf _ _
  | not => exact leaf _ _
  | @mv n m t om _ ih =>
    rw [encT_mv]
    have := shB_pos n
    refine (sh_tup (ds := [.str "move", toPyR (enc m), toPyR (encT t)]) (n := shB n) (a := 3 * n + 2) fun d hd => ?_).mono (by simp only [List.length_cons, List.length_nil, shB]; omega) (by omega)
    rcases List.mem_cons.mp hd with rfl | hd
    · exact sh_wd (.inl rfl) this
    rcases List.mem_cons.mp hd with rfl | hd
    · exact (sh_move om).mono this (by omega)
    · rw [List.mem_singleton.mp hd]; exact ih
  | @al n rs h1 h3 hm hw ih =>
    rw [encT_al]
    have := shB_pos n
    have rows : ∀ d ∈ rs.map (fun r => toPyR (encR r)), ShO d (2 * shB n + 7) (3 * n + 3) := fun d hd => by
      obtain ⟨r, hr, rfl⟩ := List.mem_map.mp hd
      rw [encR_eq]
      refine (sh_tup (ds := [toPyR (enc r.1), toPyR (encT r.2)]) (n := shB n) (a := 3 * n + 2) fun d hd => ?_).mono (by simp only [List.length_cons, List.length_nil]; omega) (Nat.le_refl _)
      rcases List.mem_cons.mp hd with rfl | hd
      · exact (sh_move (hm r hr)).mono this (by omega)
      · rw [List.mem_singleton.mp hd]; exact ih r hr
    have L : ShO (.list (rs.map fun r => toPyR (encR r))) (6 * shB n + 29) (3 * n + 4) := by
      refine (sh_lst rows).mono ?_ (Nat.le_refl _)
      rw [List.length_map]
      have : rs.length * (2 * shB n + 7 + 2) ≤ 3 * (2 * shB n + 7 + 2) := Nat.mul_le_mul_right _ h3
      omega
    show ShO (.tuple [.str "all", .list (toPyRL (rs.map encR))]) _ _
    rw [toR_map]
    refine (sh_tup (n := 6 * shB n + 29) (a := 3 * n + 4) fun d hd => ?_).mono (by simp only [List.length_cons, List.length_nil, shB]; omega) (by omega)
    rcases List.mem_cons.mp hd with rfl | hd
    · exact sh_wd (.inr rfl) (by omega)
    · rw [List.mem_singleton.mp hd]; exact L
theorem okRp_l : ∀ {ds : List D}, (∀ d ∈ ds, okRp d = true) → okRpL ds = true
  | [], _ => rfl
  | d :: ds, h => by
    show (okRp d && okRpL ds) = true
    rw [h d (by simp), okRp_l fun x hx => h x (by simp [hx])]; rfl
theorem okRp_WT {n : Nat} {t : Tr} (h : WT n t) : okRp (encT t) = true := by
  induction h with
  | won => rw [encT_leaf]; rfl
  | not => rw [encT_leaf]; rfl
  | @mv n m t om _ ih => 
    rw [encT_mv]
    exact okRp_l fun d hd => by
      rcases List.mem_cons.mp hd with rfl | hd
      · rfl
      rcases List.mem_cons.mp hd with rfl | hd
      · rfl
      · rw [List.mem_singleton.mp hd]; exact ih
  | @al n rs h1 h3 hm hw ih => 
    rw [encT_al]
    exact okRp_l fun d hd => by
      rcases List.mem_cons.mp hd with rfl | hd
      · rfl
      · rw [List.mem_singleton.mp hd]
        exact okRp_l fun d hd => by
          obtain ⟨r, hr, rfl⟩ := List.mem_map.mp hd
          rw [encR_eq]
          exact okRp_l fun d hd => by
            rcases List.mem_cons.mp hd with rfl | hd
            · rfl
            · rw [List.mem_singleton.mp hd]; exact ih r hr
theorem shB4 : shB 4 ≤ 1500000 := by decide
theorem isCon_T {n : Nat} {t : Tr} (h : WT n t) : isCon (encT t) = true := by
  cases h with
  | won => rw [encT_leaf]; rfl
  | not => rw [encT_leaf]; rfl
  | mv om _ => rw [encT_mv]; rfl
  | al _ _ _ _ => rw [encT_al]; rfl
theorem repr_tree {t : Tr} (w : WT 4 t) : ∃ z : Str, reprD (encT t) = some (.str z) := by
  have s := sh_WT w
  have b := shB4
  refine ⟨(toPyR (encT t)).shown, ?_⟩
  unfold reprD
  rw [if_pos ⟨isCon_T w, okRp_WT w, s.ok, Nat.lt_of_le_of_lt s.dp (by decide), Nat.le_trans s.le (by rw [sizeLine_eq]; omega)⟩]
theorem none_both : Mi.law_none [.d (.tup [.str "all", .lst [.tup [.tup [.tup [.int 0, .int 0], .tup [.int 1, .int 1]], .tup [.str "won"]], .tup [.tup [.tup [.int 1, .int 1], .tup [.int 0, .int 0]], .tup [.str "not"]]]])] = .ok (.bl true) [] := by kernel_rfl
theorem none_rows : Mi.law_none [.d (.tup [.str "all", .lst []])] = .ok (.bl true) [] := by kernel_rfl
theorem none_mv : Mi.law_none [.d (.tup [.str "move", .tup [.tup [.int 0, .int 0], .tup [.int 1, .int 1]], .tup [.str "all", .lst [.tup [.tup [.tup [.int 0, .int 0], .tup [.int 1, .int 1]], .tup [.str "won"]], .tup [.tup [.tup [.int 1, .int 1], .tup [.int 0, .int 0]], .tup [.str "not"]]]]])] = .ok (.bl true) [] := by kernel_rfl
theorem none_lost : Mi.law_none [.d (.tup [.str "lost"])] = .ok (.bl true) [] := by kernel_rfl
theorem law_math (ns : List Int) (hl : ns.length ≤ 63) : Mi.law [.d (.lst (ns.map D.int))] = .ok (.bl true) [] := by
  have ca0 : Mi.law_cell_at [.d (.lst (ns.map D.int)), .d (.int 0)] = .ok (.int (ns.getD 0 0)) [] := law_cell_at_ap ns 0
  have ca1 : Mi.law_cell_at [.d (.lst (ns.map D.int)), .d (.int 1)] = .ok (.int (ns.getD 1 0)) [] := law_cell_at_ap ns 1
  generalize ns.getD 0 0 = c0 at *
  generalize ns.getD 1 0 = c1 at *
  generalize D.lst (ns.map D.int) = SD at *
  have m2 : modD (.int c1) (.int 2) = some (.int (c1 % 2)) := by simp [modD, intD]
  obtain ⟨l, hl, il⟩ : ∃ l : Lf, (l = .won ∨ l = .not) ∧ ixX (.lst [.str "won", .str "not"]) (.int (c1 % 2)) = some (.str l.str) := by
    have := Int.emod_nonneg c1 (show (2 : Int) ≠ 0 by decide)
    have := Int.emod_lt_of_pos c1 (show (0 : Int) < 2 by decide)
    rcases (show c1 % 2 = 0 ∨ c1 % 2 = 1 by omega) with h | h
    · exact ⟨.won, .inl rfl, by rw [h]; rfl⟩
    · exact ⟨.not, .inr rfl, by rw [h]; rfl⟩
  obtain ⟨t, w, hT, tb⟩ := law_tree_by_ap l hl 4 c0 16 (by decide)
  have tb : Mi.law_tree_by 16 [.d (.int c0), .d (.str l.str), .d (.int 4)] = .ok (encT t) [] := tb
  have lt := law_tree_text_ap w (Nat.le_refl _) 16 (by decide)
  have tt := tree_text_ap hl w hT
  obtain ⟨z, rz⟩ := repr_tree w
  obtain ⟨S, hs, bs⟩ := spoilt71 w (c1 / 6)
  have rf := refused_ap bs
  have ro := read_ok w hl hT
  have nS := neD_s (ok4 w) (ok4 w)
  rw [decide_eq_true rfl] at nS
  have nS : neD (.str (tx (prT t))) (.str (tx (prT t))) = some (.bl false) := nS
  have nz : neSD (.str z) (.str z) = some (.bl false) := by show some (D.bl (!decide (z = z))) = _; simp
  have ez : eqSD (.str z) (.str z) = some (.bl true) := by show some (D.bl (decide (z = z))) = _; simp
  have d2 : divD (.int c1) (.int 2) = some (.int (c1 / 2)) := by simp [divD, intD, CDiv]
  have d6 : divD (.int c1) (.int 6) = some (.int (c1 / 6)) := by simp [divD, intD, CDiv]
  have m3 : modD (.int (c1 / 2)) (.int 3) = some (.int (c1 / 2 % 3)) := by simp [modD, intD]
  have is1 : isTy "str" (.str (tx (prT t))) = some true := rfl
  have is2 : isTy "tuple" (encT t) = some true := by
    cases w with
    | won => rw [encT_leaf]; rfl
    | not => rw [encT_leaf]; rfl
    | mv om _ => rw [encT_mv]; rfl
    | al _ _ _ _ => rw [encT_al]; rfl
  generalize tx (prT t) = TX at *
  generalize encT t = ET at *
  generalize c1 / 6 = q6 at *
  generalize c1 / 2 % 3 = q23 at *
  generalize c1 / 2 = q2 at *
  generalize c1 % 2 = r2 at *
  generalize l.str = LS at *
  let E (s6 s7 s8 s9 : Sl) : DL.Env := [.d SD, .d (.int c1), .d ET, .d (.str TX), .d (.str z), .d (.str TX), s6, s7, s8, s9]
  have b0 : lw0 [.d SD, .no, .no, .no, .no, .no, .no, .no, .no, .no] = .ok .nx [.d SD, .d (.int c1), .no, .no, .no, .no, .no, .no, .no, .no] := by unfold lw0; simp [ca1]
  have b1 : lw1 [.d SD, .d (.int c1), .no, .no, .no, .no, .no, .no, .no, .no] = .ok .nx [.d SD, .d (.int c1), .d ET, .no, .no, .no, .no, .no, .no, .no] := by unfold lw1; simp [-modD_int, ca0, m2, il, tb, sizeLine_eq]
  have b2 : lw2 [.d SD, .d (.int c1), .d ET, .no, .no, .no, .no, .no, .no, .no] = .ok .nx [.d SD, .d (.int c1), .d ET, .d (.str TX), .no, .no, .no, .no, .no, .no] := by unfold lw2; simp [lt]
  have b3 : lw3 [.d SD, .d (.int c1), .d ET, .d (.str TX), .no, .no, .no, .no, .no, .no] = .ok .nx [.d SD, .d (.int c1), .d ET, .d (.str TX), .d (.str z), .no, .no, .no, .no, .no] := by unfold lw3 reprM; simp [rz]
  have b4 : lw4 [.d SD, .d (.int c1), .d ET, .d (.str TX), .d (.str z), .no, .no, .no, .no, .no] = .ok .nx (E .no .no .no .no) := by unfold lw4; simp [E, tt]
  have b5 : lw5 (E .no .no .no .no) = .ok .nx (E .no .no .no .no) := by
    unfold lw5 reprM
    refine if_no ?_
    simp [E, is1, nS, rz, nz]
  rw [lw_eq]
  by_cases hc : q23 > 0
  · refine fn_run (ρ0 := [.d SD, .no, .no, .no, .no, .no, .no, .no, .no, .no]) (ρ' := E .no .no .no .no) rfl rfl ((seq_nx b0).trans ((seq_nx b1).trans ((seq_nx b2).trans ((seq_nx b3).trans ((seq_nx b4).trans ((seq_nx b5).trans (seq_ret ?_)))))))
    unfold lw6
    refine if_ret (ρ' := E .no .no .no .no) ?_ ?_
    · simp [-modD_int, -divD_int, E, d2, m3, hc]
    · simp [-modD_int, -divD_int, E, d6, hs, rf]
  · have b6 : lw6 (E .no .no .no .no) = .ok .nx (E .no .no .no .no) := by
      unfold lw6
      refine if_no ?_
      simp [-modD_int, -divD_int, E, d2, m3, hc]
    have b7 : lw7 (E .no .no .no .no) = .ok .nx (E (.d (.tup [.tup [.int 0, .int 0], .tup [.int 1, .int 1]])) .no .no .no) := by unfold lw7; simp [E]
    have b8 : lw8 (E (.d (.tup [.tup [.int 0, .int 0], .tup [.int 1, .int 1]])) .no .no .no) = .ok .nx (E (.d (.tup [.tup [.int 0, .int 0], .tup [.int 1, .int 1]])) (.d (.tup [.str "all", .lst [.tup [.tup [.tup [.int 0, .int 0], .tup [.int 1, .int 1]], .tup [.str "won"]], .tup [.tup [.tup [.int 1, .int 1], .tup [.int 0, .int 0]], .tup [.str "not"]]]])) .no .no) := by unfold lw8; simp [E, sizeLine_eq]
    have n1 := none_both
    have n2 := none_rows
    have n3 := none_mv
    have n4 := none_lost
    let M0 : D := .tup [.tup [.int 0, .int 0], .tup [.int 1, .int 1]]
    let B0 : D := .tup [.str "all", .lst [.tup [.tup [.tup [.int 0, .int 0], .tup [.int 1, .int 1]], .tup [.str "won"]], .tup [.tup [.tup [.int 1, .int 1], .tup [.int 0, .int 0]], .tup [.str "not"]]]]
    have bd : ∀ x : D, Mi.law_none [.d x] = .ok (.bl true) [] → lw9_b (E (.d M0) (.d B0) (.d x) .no) = .ok .nx (E (.d M0) (.d B0) (.d x) .no) := fun x hx => by
      unfold lw9_b
      refine if_no ?_
      generalize M0 = M0 at *
      generalize B0 = B0 at *
      simp [E, hx]
    have b9 : lw9 (E (.d M0) (.d B0) .no .no) = .ok .nx (E (.d M0) (.d B0) (.d (.tup [.str "lost"])) .no) := by
      unfold lw9
      rw [forD_ap]
      have it : itemsGM (lstM (sizeM (consM (getM 7) (consM (tupM (consM (pureM (.str "all")) (consM (lstM (sizeM (pureM []))) (pureM [])))) (consM (tupM (consM (pureM (.str "move")) (consM (getM 6) (consM (getM 7) (pureM []))))) (consM (tupM (consM (pureM (.str "lost")) (pureM []))) (pureM []))))))) (E (.d M0) (.d B0) .no .no) = .ok [B0, .tup [.str "all", .lst []], .tup [.str "move", M0, B0], .tup [.str "lost"]] (E (.d M0) (.d B0) .no .no) := by
        generalize M0 = M0 at *
        generalize B0 = B0 at *
        simp [E, sizeLine_eq, itemsG]
      rw [it]
      have e1 := bd _ n1
      have e2 := bd _ n2
      have e3 := bd _ n3
      have e4 := bd _ n4
      have e1 : lw9_b (E (.d M0) (.d B0) (.d B0) .no) = .ok .nx (E (.d M0) (.d B0) (.d B0) .no) := e1
      have e3 : lw9_b (E (.d M0) (.d B0) (.d (.tup [.str "move", M0, B0])) .no) = .ok .nx (E (.d M0) (.d B0) (.d (.tup [.str "move", M0, B0])) .no) := e3
      generalize M0 = M0 at *
      generalize B0 = B0 at *
      generalize lw9_b = BB at *
      have tg : ∀ (x : D) (s8 : Sl), tgN 8 x (E (.d M0) (.d B0) s8 .no) = some (E (.d M0) (.d B0) (.d x) .no) := fun x s8 => rfl
      have step : ∀ (x : D) (xs : List D) (s8 : Sl), BB (E (.d M0) (.d B0) (.d x) .no) = .ok .nx (E (.d M0) (.d B0) (.d x) .no) → forM (tgN 8) BB (x :: xs) (E (.d M0) (.d B0) s8 .no) = forM (tgN 8) BB xs (E (.d M0) (.d B0) (.d x) .no) := fun x xs s8 h => by
        conv => lhs; unfold forM
        simp only [tg, h]
      show forM (tgN 8) BB _ _ = _
      rw [step _ _ _ e1, step _ _ _ e2, step _ _ _ e3, step _ _ _ e4]
      rfl
    have b10 : lw10 (E (.d M0) (.d B0) (.d (.tup [.str "lost"])) .no) = .ok .nx (E (.d M0) (.d B0) (.d (.tup [.str "lost"])) (.d ET)) := by
      unfold lw10
      generalize M0 = M0 at *
      generalize B0 = B0 at *
      simp [E, ro]
    have b11 : lw11 (E (.d M0) (.d B0) (.d (.tup [.str "lost"])) (.d ET)) = .ok (.ret (.bl true)) (E (.d M0) (.d B0) (.d (.tup [.str "lost"])) (.d ET)) := by
      unfold lw11 reprM
      refine ret_ok ?_
      generalize M0 = M0 at *
      generalize B0 = B0 at *
      simp [E, is2, rz, ez]
    exact fn_run (ρ0 := [.d SD, .no, .no, .no, .no, .no, .no, .no, .no, .no]) (ρ' := E (.d M0) (.d B0) (.d (.tup [.str "lost"])) (.d ET)) rfl rfl ((seq_nx b0).trans ((seq_nx b1).trans ((seq_nx b2).trans ((seq_nx b3).trans ((seq_nx b4).trans ((seq_nx b5).trans ((seq_nx b6).trans ((seq_nx b7).trans ((seq_nx b8).trans ((seq_nx b9).trans ((seq_nx b10).trans b11)))))))))))
end DL
end
namespace DL
open PySem PySem.Spec L2
open PyProof.Rows hiding St
end DL
open PySem PySem.W PySem.Calls PyProof.Rows
theorem PySem.Challenge.cw_pieceyard_k71_trees_written_holds : PySem.Challenge.rw_pieceyard_k71_trees_written.Holds := by
  w_on; o_law
  refine HandSHeadRun.head_any (r := OpenLaw.row PySem.Challenge.rw_pieceyard_k71_trees_written) (q := view (OpenLaw.row PySem.Challenge.rw_pieceyard_k71_trees_written).prog [38]) (H := DL.hkk) (ob := DL.obb) (M := 8000) (loose := DL.loose) (d := HandSHeadRun.topDef (OpenLaw.row PySem.Challenge.rw_pieceyard_k71_trees_written).prog 38) (kwd := []) DL.obb_eq
    (by kernel_rfl) (fun s => by kernel_rfl) DL.run (by kernel_rfl) (by kernel_rfl) (by kernel_rfl) (by rfl) (by first | assumption | decide +kernel) (by decide +kernel) ⟨rfl, rfl, rfl, rfl, rfl, by decide +kernel⟩ ?hw ?hc
  case hw => w_witness2
  case hc =>
    refine DL.walk_G (l := PySem.Challenge.rw_pieceyard_k71_trees_written) (n := 63) (x := "script") rfl (by decide) (by kernel_rfl) ?F
    intro w mg fa h Y G hmg0
    obtain ⟨⟨K, KX, c, xt⟩, sy⟩ := Y
    have hmg : mg ("law" : PySem.Str) = some (.ref fa) := by
      have e : (HandSHeadRun.topDef (OpenLaw.row PySem.Challenge.rw_pieceyard_k71_trees_written).prog 38).name = ("law" : PySem.Str) := by kernel_rfl
      rw [← e]
      exact hmg0
    obtain ⟨fd, D, hs, hF⟩ := DL.law_ok (P := (PySem.Challenge.rw_pieceyard_k71_trees_written).prog) (w := w) KX G c xt
    have ea : fa = He.ga K "law" := by
      have z := D.1
      rw [hmg] at z
      exact PySem.Value.ref.inj (Option.some.inj z)
    subst ea
    exact ⟨sy, K, fd, DL.spD ⟨K, mg, w⟩ none [false] .f DL.Mi.law, KX, fun s v => (D.2.bindsA (ps := ["script"]) DL.bi_law s [v] rfl), fun H a ns hl hO hS => DL.law_sp hs hO hS (DL.law_math ns hl), fun base _ _ hsy => hF base hsy⟩
