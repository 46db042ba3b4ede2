import PyProof.Rows.All
import Wide.All
import OpenK.AllK
import Wide.FinOn
import PyProof.EqAt
import PyProof.EqKinds
import PyProof.TupleCall
import HandS.ForMost
import HandS.Exc
import HandS.TryOnly
import HandS.ExcOwn
import HandS.Defaults
import HandS.Head0
import HandS.Head1
import HandS.Head2
import HandS.HeadEnd
import HandS.HeadHook1
import HandS.HeadHook2
import HandS.IsInst
import HandS.HotCalls
import HandS.ExcIs
import HandS.More
import PySem.Challenge.RW_pieceyard_k30_depths
set_option Elab.async false
set_option linter.all false
set_option maxRecDepth 100000
set_option maxHeartbeats 0
section
/-! the data layer: values as pure data, a def as a plain function of data -/
namespace DL
open PySem PySem.Spec L2
open PyProof.Rows hiding St

/-- pure data -/
inductive D where
  | non | bl (b : Bool) | int (i : Int) | str (s : Str)
  | lst (xs : List D) | tup (xs : List D)
  | dic (ks vs : List D) | ins (c : Str) (ns : List Str) (fs : List D)
  deriving Inhabited

/-- a slot: empty, data, a list that the def owns, the handled exception -/
inductive Sl where
  | no | d (x : D) | own (xs : List D) | exn (c : Str)
  deriving Inhabited
abbrev Env := List Sl
inductive Res (α : Type) where
  | ok (a : α) (ρ : Env) | exc (c : Str) (ρ : Env) | stuck
abbrev M (α : Type) := Env → Res α
inductive Flow where
  | nx | ret (d : D) | brk | ct
abbrev MS := M Flow

/-- what never changes -/
def Fixed : HO → Prop
  | .tup _ => True
  | .frz _ _ => True
  | _ => False
def Stable (H H' : Hp) : Prop := ∀ a o, H a = some o → Fixed o → H' a = some o
theorem Stable.rfl {H : Hp} : Stable H H := fun _ _ h _ => h
theorem Stable.trans {H1 H2 H3 : Hp} (a : Stable H1 H2) (b : Stable H2 H3) : Stable H1 H3 := fun x o h f => b x o (a x o h f) f
def Grow (H H' : Hp) : Prop := ∀ a o, H a = some o → H' a = some o
theorem Grow.rfl {H : Hp} : Grow H H := fun _ _ h => h
theorem Grow.stable {H H' : Hp} (g : Grow H H') : Stable H H' := fun a o h _ => g a o h
theorem Grow.trans {H1 H2 H3 : Hp} (a : Grow H1 H2) (b : Grow H2 H3) : Grow H1 H3 := fun x o h => b x o (a x o h)
theorem Grow.new {H : Hp} {p : Addr} {o : HO} (hp : H p = none) : Grow H (upd H p o) := fun a u h => by
  rw [upd_ne (ne_of_none h hp)]; exact h

/-- the module: the written part, the names -/
structure Md where
  K : PySem.W.Frag
  mg : Str → Option Value
/-- the ghost context: the module, the heap at the entry, the by-reference parameters -/
structure Gh where
  m : Md
  H0 : Hp
  pr : List (Nat × Addr)
  ex : Option (Addr × Str) := none

def SqF (K : PySem.W.Frag) (H : Hp) (a : Addr) (xs : List V) : Prop :=
  (∃ o, H a = some (.frz o (.lst xs))) ∨ ∃ (its : Array Value) (n : Nat), K.lookup a = some { cls := .type "list", data := .seq its n } ∧ its.size ≤ sizeLine ∧ Vals xs its.toList
theorem SqF.sq {K : PySem.W.Frag} {H : Hp} {a : Addr} {xs : List V} (h : SqF K H a xs) : SqL K H a xs := by
  rcases h with ⟨o, h⟩ | ⟨its, n, h1, h2, h3⟩
  · exact .inl (.inr ⟨o, h⟩)
  · exact .inr ⟨_, its, n, h1, rfl, rfl, rfl, h2, h3⟩
theorem SqF.st {K : PySem.W.Frag} {H H' : Hp} {a : Addr} {xs : List V} (s : Stable H H') (h : SqF K H a xs) : SqF K H' a xs := by
  rcases h with ⟨o, h⟩ | h
  · exact .inl ⟨o, s _ _ h trivial⟩
  · exact .inr h
theorem SqT_st {K : PySem.W.Frag} {H H' : Hp} {a : Addr} {xs : List V} (s : Stable H H') (h : SqT K H a xs) : SqT K H' a xs := by
  rcases h with (h | ⟨o, h⟩) | h
  · exact .inl (.inl (s _ _ h trivial))
  · exact .inl (.inr ⟨o, s _ _ h trivial⟩)
  · exact .inr h
def keyD : Key → D
  | .inl i => .int i
  | .inr x => .str x

mutual
inductive Rep (m : Md) (H : Hp) : V → D → Prop
  | non : Rep m H .non .non
  | bl (b : Bool) : Rep m H (.bl b) (.bl b)
  | int (i : Int) : Rep m H (.int i) (.int i)
  | str (x : Str) : Rep m H (.str x) (.str x)
  | lst {a : Addr} {vs : List V} {ds : List D} : SqF m.K H a vs → RepL m H vs ds → Rep m H (.ref a) (.lst ds)
  | tup {a : Addr} {vs : List V} {ds : List D} : SqT m.K H a vs → RepL m H vs ds → Rep m H (.ref a) (.tup ds)
  | ins {a C dx : Addr} {o : Obj} {c : Str} {ns : List Str} {vs : List V} {ds : List D} : m.mg c = some (.ref C) → H a = some (.frz o (.ins C dx (ns.zip vs))) → ns.length = vs.length → RepL m H vs ds → Rep m H (.ref a) (.ins c ns ds)
  | dicK {a : Addr} {o : Obj} {kvs : List (Key × V)} {ds : List D} : H a = some (.frz o (.dK kvs)) → RepL m H (kvs.map (·.2)) ds → Rep m H (.ref a) (.dic (kvs.map fun p => keyD p.1) ds)
inductive RepL (m : Md) (H : Hp) : List V → List D → Prop
  | nil : RepL m H [] []
  | cons {v : V} {vs : List V} {d : D} {ds : List D} : Rep m H v d → RepL m H vs ds → RepL m H (v :: vs) (d :: ds)
end
section
variable {m : Md} {H H' : Hp}
mutual
theorem Rep.st (s : Stable H H') : ∀ {d : D} {v : V}, Rep m H v d → Rep m H' v d
  | .non, _, h => by cases h; exact .non
  | .bl b, _, h => by cases h; exact .bl b
  | .int i, _, h => by cases h; exact .int i
  | .str x, _, h => by cases h; exact .str x
  | .lst ds, _, h => by
    cases h with
    | lst q r => exact .lst (q.st s) (RepL.st s r)
  | .tup ds, _, h => by
    cases h with
    | tup q r => exact .tup (SqT_st s q) (RepL.st s r)
  | .ins c ns ds, _, h => by
    cases h with
    | ins m' q e r => exact .ins m' (s _ _ q trivial) e (RepL.st s r)
  | .dic ks ds, _, h => by
    cases h with
    | dicK q r => exact .dicK (s _ _ q trivial) (RepL.st s r)
theorem RepL.st (s : Stable H H') : ∀ {ds : List D} {vs : List V}, RepL m H vs ds → RepL m H' vs ds
  | [], _, h => by cases h; exact .nil
  | d :: ds, _, h => by
    cases h with
    | cons a b => exact .cons (Rep.st s a) (RepL.st s b)
end
theorem RepL.len : ∀ {vs : List V} {ds : List D}, RepL m H vs ds → vs.length = ds.length
  | _, [], h => by cases h; rfl
  | _, d :: ds, h => by
    cases h with
    | cons a b => simp [RepL.len b]
theorem RepL.get : ∀ {vs : List V} {ds : List D} {i : Nat} {d : D}, RepL m H vs ds → ds[i]? = some d → ∃ v, vs[i]? = some v ∧ Rep m H v d
  | _, [], i, d, h, e => by simp at e
  | _, x :: ds, 0, d, h, e => by
    cases h with
    | cons a b => simp at e; subst e; exact ⟨_, rfl, a⟩
  | _, x :: ds, i + 1, d, h, e => by
    cases h with
    | cons a b =>
      obtain ⟨v, h1, h2⟩ := RepL.get (i := i) (d := d) b (by simpa using e)
      exact ⟨v, by simpa using h1, h2⟩
theorem RepL.getV : ∀ {vs : List V} {ds : List D} {i : Nat} {v : V}, RepL m H vs ds → vs[i]? = some v → ∃ d, ds[i]? = some d ∧ Rep m H v d
  | _, [], i, v, h, e => by cases h; simp at e
  | _, x :: ds, 0, v, h, e => by
    cases h with
    | cons a b => simp at e; subst e; exact ⟨_, rfl, a⟩
  | _, x :: ds, i + 1, v, h, e => by
    cases h with
    | cons a b =>
      obtain ⟨d, h1, h2⟩ := RepL.getV (i := i) (v := v) b (by simpa using e)
      exact ⟨d, by simpa using h1, h2⟩
theorem RepL.append : ∀ {vs ws : List V} {ds es : List D}, RepL m H vs ds → RepL m H ws es → RepL m H (vs ++ ws) (ds ++ es)
  | _, _, [], _, h, k => by cases h; exact k
  | _, _, x :: ds, _, h, k => by
    cases h with
    | cons a b => exact .cons a (RepL.append b k)
theorem RepL.set {v : V} {d : D} (r : Rep m H v d) : ∀ {vs : List V} {ds : List D} (i : Nat), RepL m H vs ds → RepL m H (vs.set i v) (ds.set i d)
  | _, [], i, h => by cases h; exact .nil
  | _, x :: ds, 0, h => by
    cases h with
    | cons a b => exact .cons r b
  | _, x :: ds, i + 1, h => by
    cases h with
    | cons a b => exact .cons a (RepL.set r i b)
theorem RepL.take : ∀ {vs : List V} {ds : List D} (n : Nat), RepL m H vs ds → RepL m H (vs.take n) (ds.take n)
  | _, _, 0, h => by simp; exact .nil
  | _, [], n + 1, h => by cases h; exact .nil
  | _, x :: ds, n + 1, h => by
    cases h with
    | cons a b => exact .cons a (RepL.take n b)
theorem RepL.drop : ∀ {vs : List V} {ds : List D} (n : Nat), RepL m H vs ds → RepL m H (vs.drop n) (ds.drop n)
  | _, _, 0, h => by simpa using h
  | _, [], n + 1, h => by cases h; exact .nil
  | _, x :: ds, n + 1, h => by
    cases h with
    | cons a b => simpa using RepL.drop n b
theorem RepL.reverse : ∀ {vs : List V} {ds : List D}, RepL m H vs ds → RepL m H vs.reverse ds.reverse
  | _, [], h => by cases h; exact .nil
  | _, x :: ds, h => by
    cases h with
    | cons a b => simp only [List.reverse_cons]; exact RepL.append (RepL.reverse b) (.cons a .nil)
end

/-! ### the state against the slots -/
structure StOk (G : Gh) (σ : St) (H : Hp) (ρ : Env) : Prop where
  len : σ.length = ρ.length
  dat : ∀ (i : Nat) (x : D), ρ[i]? = some (.d x) → ∃ v, σ[i]? = some (some v) ∧ Rep G.m H v x
  own : ∀ (i : Nat) (xs : List D), ρ[i]? = some (.own xs) → ∃ a vs, σ[i]? = some (some (.ref a)) ∧ H a = some (.lst vs) ∧ RepL G.m H vs xs ∧ ((∀ p ∈ G.pr, p.1 ≠ i) → G.H0 a = none ∧ ∀ p ∈ G.pr, p.2 ≠ a)
  sep : ∀ (i j : Nat) (xs ys : List D) (a : Addr), i ≠ j → ρ[i]? = some (.own xs) → ρ[j]? = some (.own ys) → σ[i]? = some (some (.ref a)) → σ[j]? ≠ some (some (.ref a))
  prot : ∀ p ∈ G.pr, σ[p.1]? = some (some (.ref p.2)) ∧ ∃ xs, ρ[p.1]? = some (.own xs)
  keep : ∀ a o, G.H0 a = some o → (∀ p ∈ G.pr, p.2 ≠ a) → H a = some o
  exn : ∀ (i : Nat) (c : Str), ρ[i]? = some (.exn c) → ∃ a, G.ex = some (a, c) ∧ σ[i]? = some (some (.ref a))
/-- a is no own list's place -/
def Fresh (G : Gh) (σ : St) (ρ : Env) (a : Addr) : Prop := G.H0 a = none ∧ (∀ p ∈ G.pr, p.2 ≠ a) ∧ ∀ (i : Nat) (xs : List D), ρ[i]? = some (.own xs) → σ[i]? ≠ some (some (.ref a))
section
variable {G : Gh} {σ : St} {H H' : Hp} {ρ : Env} {a p : Addr} {o : HO}
theorem StOk.fresh (k : StOk G σ H ρ) (hp : H p = none) : Fresh G σ ρ p := by
  refine ⟨?_, ?_, ?_⟩
  · cases e : G.H0 p with
    | none => rfl
    | some u =>
      by_cases c : ∀ q ∈ G.pr, q.2 ≠ p
      · have z := k.keep p u e c
        rw [hp] at z; cases z
      · exfalso
        apply c
        intro q hq e2
        obtain ⟨h1, xs, h2⟩ := k.prot q hq
        obtain ⟨b, vs, h3, h4, _⟩ := k.own q.1 xs h2
        rw [h1] at h3
        injection h3 with h3; injection h3 with h3; injection h3 with h3
        rw [← h3, e2, hp] at h4; cases h4
  · intro q hq e2
    obtain ⟨h1, xs, h2⟩ := k.prot q hq
    obtain ⟨b, vs, h3, h4, _⟩ := k.own q.1 xs h2
    rw [h1] at h3
    injection h3 with h3; injection h3 with h3; injection h3 with h3
    rw [← h3, e2, hp] at h4; cases h4
  · intro i xs hi e
    obtain ⟨b, vs, h3, h4, _⟩ := k.own i xs hi
    rw [e] at h3
    injection h3 with h3; injection h3 with h3; injection h3 with h3
    rw [← h3, hp] at h4; cases h4
/-- new objects -/
theorem StOk.grow (k : StOk G σ H ρ) (g : Grow H H') : StOk G σ H' ρ where
  len := k.len
  dat := fun i x h => by obtain ⟨v, h1, h2⟩ := k.dat i x h; exact ⟨v, h1, h2.st g.stable⟩
  own := fun i xs h => by obtain ⟨b, vs, h1, h2, h3, h4⟩ := k.own i xs h; exact ⟨b, vs, h1, g _ _ h2, h3.st g.stable, h4⟩
  sep := k.sep
  prot := k.prot
  keep := fun b u h1 h2 => g _ _ (k.keep b u h1 h2)
  exn := k.exn
/-- a place that is no own list's is written -/
theorem StOk.upd (k : StOk G σ H ρ) (f : Fresh G σ ρ p) (hf : ∀ u, H p = some u → ¬ Fixed u) : StOk G σ (upd H p o) ρ := by
  have st : Stable H (L2.upd H p o) := fun b u hb hx => by
    by_cases e : b = p
    · subst e; exact absurd hx (hf _ hb)
    · rw [upd_ne e]; exact hb
  refine ⟨k.len, ?_, ?_, k.sep, k.prot, ?_, k.exn⟩
  · intro i x h; obtain ⟨v, h1, h2⟩ := k.dat i x h; exact ⟨v, h1, h2.st st⟩
  · intro i xs h
    obtain ⟨b, vs, h1, h2, h3, h4⟩ := k.own i xs h
    refine ⟨b, vs, h1, ?_, h3.st st, h4⟩
    rw [upd_ne]
    · exact h2
    · intro e; subst e; exact f.2.2 i xs h h1
  · intro b u h1 h2
    have : b ≠ p := by intro e; subst e; rw [f.1] at h1; cases h1
    rw [upd_ne this]; exact k.keep b u h1 h2
end

end DL
end
section
namespace DL
open PySem PySem.Spec L2
open PyProof.Rows hiding St

/-! ### the monad -/
def pureM {α : Type} (x : α) : M α := fun ρ => .ok x ρ
def bindM {α β : Type} (a : M α) (k : α → M β) : M β := fun ρ => match a ρ with
  | .ok x ρ' => k x ρ'
  | .exc c ρ' => .exc c ρ'
  | .stuck => .stuck
def stuckM {α : Type} : M α := fun _ => .stuck
def liftM {α : Type} : Option α → M α
  | some x => pureM x
  | none => stuckM
def getM (i : Nat) : M D := fun ρ => match ρ[i]? with
  | some (.d x) => .ok x ρ
  | _ => .stuck
/-- an own list, read -/
def getO (i : Nat) : M (List D) := fun ρ => match ρ[i]? with
  | some (.own xs) => .ok xs ρ
  | _ => .stuck
def putO (i : Nat) (xs : List D) : M Unit := fun ρ => .ok () (ρ.set i (.own xs))
def putD (i : Nat) (x : D) : M Unit := fun ρ => .ok () (ρ.set i (.d x))

def postG {α : Type} (G : Gh) (W : WX) (σ : L2.St) (H : Hp) (r : Res α) (Q : α → Env → Hp → Prop) : Prop := match r with
  | .ok a ρ => ∀ H', Stable H H' → StOk G σ H' ρ → Q a ρ H'
  | .exc c ρ => ∀ C H', G.m.mg c = some (.ref C) → Stable H H' → StOk G σ H' ρ → W (.ref C) none σ H'
  | .stuck => False
section
variable {G : Gh} {W : WX} {σ : L2.St} {H H1 : Hp} {α β : Type}
theorem postG.from {r : Res α} {Q : α → Env → Hp → Prop} (s : Stable H H1) (h : postG G W σ H r Q) : postG G W σ H1 r Q := by
  cases r with
  | ok a ρ => exact fun H' s' k => h H' (s.trans s') k
  | exc c ρ => exact fun C H' e s' k => h C H' e (s.trans s') k
  | stuck => exact h
theorem postG.mono {r : Res α} {Q Q' : α → Env → Hp → Prop} (h : postG G W σ H r Q) (k : ∀ a ρ H', r = .ok a ρ → Stable H H' → StOk G σ H' ρ → Q a ρ H' → Q' a ρ H') : postG G W σ H r Q' := by
  cases r with
  | ok a ρ => exact fun H' s' st => k a ρ H' rfl s' st (h H' s' st)
  | exc c ρ => exact h
  | stuck => exact h
theorem postG.bind {a : M α} {k : α → M β} {ρ : Env} {Q : β → Env → Hp → Prop} (h : postG G W σ H (bindM a k ρ) Q) :
    postG G W σ H (a ρ) (fun x ρ1 H1 => postG G W σ H1 (k x ρ1) Q) := by
  unfold bindM at h
  cases e : a ρ with
  | ok x ρ1 =>
    rw [e] at h
    exact fun H1 s1 _ => postG.from s1 h
  | exc c ρ1 => rw [e] at h; exact h
  | stuck => rw [e] at h; exact h
theorem postG.lift {o : Option α} {ρ : Env} {Q : α → Env → Hp → Prop} (k : StOk G σ H ρ) (h : postG G W σ H (liftM o ρ) Q) : ∃ x, o = some x ∧ ∀ H', Stable H H' → StOk G σ H' ρ → Q x ρ H' := by
  cases o with
  | some x => exact ⟨x, rfl, h⟩
  | none => exact h.elim
end

/-! ### expressions -/
def dT (G : Gh) (W : WX) (f : M D) : TE := fun σ H Q => ∃ ρ, StOk G σ H ρ ∧ postG G W σ H (f ρ) fun d _ H' => ∀ v, Rep G.m H' v d → Q v H'
/-- the expression computes f -/
def DE (X : Cx) (G : Gh) (W : WX) (e : Expr) (f : M D) : Prop := PE X e (dT G W f)
/-- .. a list of its own -/
def oT (G : Gh) (W : WX) (f : M (List D)) : TE := fun σ H Q => ∃ ρ, StOk G σ H ρ ∧ postG G W σ H (f ρ) fun ds ρ' H' => ∀ a vs, H' a = some (.lst vs) → RepL G.m H' vs ds → Fresh G σ ρ' a → Q (.ref a) H'
def DO (X : Cx) (G : Gh) (W : WX) (e : Expr) (f : M (List D)) : Prop := PE X e (oT G W f)
/-- a test -/
def tT (G : Gh) (W : WX) (f : M Bool) : TT := fun σ H Q => ∃ ρ, StOk G σ H ρ ∧ postG G W σ H (f ρ) fun b _ H' => Q b H'
def DT (X : Cx) (G : Gh) (W : WX) (e : Expr) (f : M Bool) : Prop := PT X e (tT G W f)
/-- arguments, all of them data -/
def aT (G : Gh) (W : WX) (f : M (List D)) : TA := fun σ H Q => ∃ ρ, StOk G σ H ρ ∧ postG G W σ H (f ρ) fun ds _ H' => ∀ vs, RepL G.m H' vs ds → Q vs H'
def DA (X : Cx) (G : Gh) (W : WX) (es : List Expr) (f : M (List D)) : Prop := PA X es (aT G W f)
theorem pe_imp {X : Cx} {e : Expr} {t t' : TE} (h : PE X e t) (k : ∀ σ H Q, t' σ H Q → t σ H Q) : PE X e t' := ⟨fun pins s σ H Q I q => h.run pins s σ H Q I (k σ H Q q)⟩
theorem pt_imp {X : Cx} {e : Expr} {t t' : TT} (h : PT X e t) (k : ∀ σ H Q, t' σ H Q → t σ H Q) : PT X e t' := ⟨fun pins s σ H Q I q => h.run pins s σ H Q I (k σ H Q q)⟩
theorem pw_imp {X : Cx} {e : Expr} {t t' : TT} (h : PW X e t) (k : ∀ σ H Q, t' σ H Q → t σ H Q) : PW X e t' := ⟨fun wh pins s σ H Q I q => h.run wh pins s σ H Q I (k σ H Q q)⟩
theorem pa_imp {X : Cx} {es : List Expr} {t t' : TA} (h : PA X es t) (k : ∀ σ H Q, t' σ H Q → t σ H Q) : PA X es t' := ⟨fun pos pins s σ H Q I q => h.run pos pins s σ H Q I (k σ H Q q)⟩
theorem ps_imp {X : Cx} {e : Stmt} {t t' : TS} (h : PS X e t) (k : ∀ D σ H, t' D σ H → t D σ H) : PS X e t' := ⟨fun pins s σ H D I q => h.run pins s σ H D I (k D σ H q)⟩
theorem pss_imp {X : Cx} {e : List Stmt} {t t' : TS} (h : PSs X e t) (k : ∀ D σ H, t' D σ H → t D σ H) : PSs X e t' := ⟨fun pins s σ H D I q => h.run pins s σ H D I (k D σ H q)⟩

/-- a fresh mutable object is frozen -/
def tFz (t : TE) : TE := fun σ H Q => t σ H fun v H' => Q v H' ∨ ∃ a u, v = .ref a ∧ H' a = some u ∧ Mut (some u) ∧ ∀ o, Q v (upd H' a (.frz o u))
theorem pe_fz {X : Cx} {e : Expr} {t : TE} (h : PE X e t) : PE X e (tFz t) := ⟨fun pins s σ H Q I q => thn (h.run pins s σ H _ I q) fun v s1 ⟨x, H1, I1, r, q1⟩ => by
  rcases q1 with q1 | ⟨a, u, e, hu, mu, q1⟩
  · exact ⟨x, H1, I1, r, q1⟩
  · obtain ⟨od, I2⟩ := I1.lock hu mu
    exact ⟨x, _, I2, r, q1 od⟩⟩
theorem nfix_of {u v : HO} {H : Hp} {a : Addr} (h : H a = some u) (m : Mut (some u)) (e : H a = some v) : ¬ Fixed v := by
  rw [h] at e; cases e
  intro f
  cases u <;> first | exact m | exact f
theorem Stable.upd {H : Hp} {a : Addr} {u w : HO} (h : H a = some u) (m : Mut (some u)) : Stable H (L2.upd H a w) := fun b v hb fx => by
  by_cases e : b = a
  · subst e; exact absurd fx (nfix_of h m hb)
  · rw [upd_ne e]; exact hb

section
variable {X : Cx} {G : Gh} {W : WX} {e a b : Expr} {pos : Pos}
/-- a list of its own as data: frozen -/
def lstM (f : M (List D)) : M D := bindM f fun ds => pureM (.lst ds)
theorem de_fz {f : M (List D)} (h : DO X G W e f) : DE X G W e (lstM f) := pe_imp (pe_fz h) fun σ H Q ⟨ρ, k, q⟩ => ⟨ρ, k, q.bind.mono fun ds ρ1 H1 _ s1 k1 q1 a vs ha hr hf => .inr ⟨a, _, rfl, ha, trivial, fun o => by
  have st : Stable H1 (upd H1 a (.frz o (.lst vs))) := Stable.upd ha trivial
  exact q1 _ st (k1.upd hf fun u hu => nfix_of ha trivial hu) _ (.lst (.inl ⟨o, upd_same⟩) (hr.st st))⟩⟩

/-! ### names, constants -/
theorem de_var (i : Nat) {x : Str} (hN : X.N[i]? = some x) (hv : Vis X.env.scope x := by first | exact .inl rfl | exact .inr (.inl rfl) | exact .inr (.inr rfl)) (hd : (x == ("__debug__" : Str)) = false := by decide) (hcd : (x == ("__classdict__" : Str)) = false := by decide) :
    DE X G W (.Name x pos) (getM i) := pe_imp (pe_var (i := i) hN hv hd hcd) fun σ H Q ⟨ρ, k, q⟩ => by
  unfold getM at q
  cases e : ρ[i]? with
  | none => rw [e] at q; exact q.elim
  | some sl =>
    rw [e] at q
    cases sl with
    | no => exact q.elim
    | own xs => exact q.elim
    | exn xs => exact q.elim
    | d x =>
      obtain ⟨v, h1, h2⟩ := k.dat i x e
      exact ⟨v, h1, q H Stable.rfl k v h2⟩
theorem de_int {i j} : DE X G W (.Constant (.int i) j pos) (pureM (.int i)) := pe_imp pe_int fun σ H Q ⟨ρ, k, q⟩ => q H Stable.rfl k _ (.int i)
theorem de_bl {i j} : DE X G W (.Constant (.bool i) j pos) (pureM (.bl i)) := pe_imp pe_bl fun σ H Q ⟨ρ, k, q⟩ => q H Stable.rfl k _ (.bl i)
theorem de_non {j} : DE X G W (.Constant .none j pos) (pureM .non) := pe_imp pe_non fun σ H Q ⟨ρ, k, q⟩ => q H Stable.rfl k _ .non
theorem de_str {i j} : DE X G W (.Constant (.str i) j pos) (pureM (.str i)) := pe_imp pe_str fun σ H Q ⟨ρ, k, q⟩ => q H Stable.rfl k _ (.str i)
/-- a module's constant -/
theorem de_glob {x : Str} {v : V} {u : Value} {d : D} (hg : Gl X x) (hm : X.mg x = some u) (r : RelV v u) (rp : ∀ H, Rep G.m H v d) (hd : (x == ("__debug__" : Str)) = false := by decide) : DE X G W (.Name x pos) (pureM d) :=
  pe_imp (pe_glob hg hm r hd) fun σ H Q ⟨ρ, k, q⟩ => q H Stable.rfl k _ (rp H)

theorem de_globS {x z : Str} (hg : Gl X x) (hm : ∃ t, X.mg x = some (.str z t)) (hd : (x == ("__debug__" : Str)) = false := by decide) : DE X G W (.Name x pos) (pureM (.str z)) := by
  obtain ⟨t, h⟩ := hm
  exact de_glob (v := .str z) hg h ⟨t, rfl⟩ (fun _ => .str z) hd
theorem de_globI {x : Str} {z : Int} (hg : Gl X x) (hm : ∃ t, X.mg x = some (.int z t)) (hd : (x == ("__debug__" : Str)) = false := by decide) : DE X G W (.Name x pos) (pureM (.int z)) := by
  obtain ⟨t, h⟩ := hm
  exact de_glob (v := .int z) hg h ⟨t, rfl⟩ (fun _ => .int z) hd

/-! ### operators -/
def OpD (m : Md) (r : R2) (g : D → D → Option D) : Prop := ∀ (x y : V) (dx dy d : D) (H : Hp) (Q : VK), Rep m H x dx → Rep m H y dy → g dx dy = some d → (∀ v H', Grow H H' → Rep m H' v d → Q v H') → r x y H Q
def op2 (g : D → D → Option D) (fa fb : M D) : M D := bindM fa fun x => bindM fb fun y => liftM (g x y)
theorem op2_run {ta tb : TE} {r : R2} {g : D → D → Option D} {fa fb : M D} (hr : OpD G.m r g) (ia : ∀ σ H Q, dT G W fa σ H Q → ta σ H Q) (ib : ∀ σ H Q, dT G W fb σ H Q → tb σ H Q) {σ : L2.St} {H : Hp} {Q : VK} (h : dT G W (op2 g fa fb) σ H Q) : tOp r ta tb σ H Q := by
  obtain ⟨ρ, k, q⟩ := h
  refine ia _ _ _ ⟨ρ, k, q.bind.mono fun x ρ1 H1 _ s1 k1 q1 v rv => ?_⟩
  refine ib _ _ _ ⟨ρ1, k1, q1.bind.mono fun y ρ2 H2 _ s2 k2 q2 w rw' => ?_⟩
  obtain ⟨d, e, q3⟩ := q2.lift k2
  exact hr v w x y d H2 Q (rv.st s2) rw' e fun u H3 g3 r3 => q3 H3 g3.stable (k2.grow g3) u r3
theorem de_op {op : Operator} {r : R2} {g : D → D → Option D} {fa fb : M D} (ho : OpR X (binaryOp op) r) (hr : OpD G.m r g) (ha : DE X G W a fa) (hb : DE X G W b fb) : DE X G W (.BinOp a op b pos) (op2 g fa fb) :=
  pe_imp (pe_op ho ha hb) fun σ H Q h => op2_run hr (fun _ _ _ z => z) (fun _ _ _ z => z) h
theorem de_cmp {op : CmpOp} {r : R2} {g : D → D → Option D} {fa fb : M D} (ho : OpR X (compareOp op) r) (hr : OpD G.m r g) (ha : DE X G W a fa) (hb : DE X G W b fb) (hm : behindInMarks op b = false) : DE X G W (.Compare a [op] [b] pos) (op2 g fa fb) :=
  pe_imp (pe_cmpR ho ha hb hm) fun σ H Q h => op2_run hr (fun _ _ _ z => z) (fun _ _ _ z => z) h
theorem de_ix {r : R2} {g : D → D → Option D} {fa fb : M D} (ho : IxR X r) (hr : OpD G.m r g) (ha : DE X G W a fa) (hb : DE X G W b fb) (hs : PlainIx b := by exact fun _ _ => rfl) : DE X G W (.Subscript a b pos) (op2 g fa fb) :=
  pe_imp (pe_ix ho ha hb hs) fun σ H Q h => op2_run hr (fun _ _ _ z => z) (fun _ _ _ z => z) h
def boolM (f : M D) : M Bool := bindM f fun d => match d with
  | .bl b => pureM b
  | _ => stuckM
/-- a value that is True or False, as a test -/
theorem dt_val {f : M D} (h : DE X G W e f) (he : ∀ whole, isTrue e X.env whole = (do let v ← whole; standAt e.pos; holding [v] (truthy v)) := by intro _; rfl) : DT X G W e (boolM f) :=
  pt_imp (pt_val h he) fun σ H Q ⟨ρ, k, q⟩ => ⟨ρ, k, q.bind.mono fun d ρ1 H1 _ s1 k1 q1 v r => by
    cases r with
    | bl b => exact ⟨b, rfl, q1 H1 Stable.rfl k1⟩
    | _ => exact q1.elim⟩
theorem dt_cmp {op : CmpOp} {r : R2} {g : D → D → Option D} {fa fb : M D} (ho : OpR X (compareOp op) r) (hr : OpD G.m r g) (ha : DE X G W a fa) (hb : DE X G W b fb) (hm : behindInMarks op b = false) : DT X G W (.Compare a [op] [b] pos) (boolM (op2 g fa fb)) :=
  pt_imp (pt_cmpR ho ha hb hm) fun σ H Q ⟨ρ, k, q⟩ => op2_run hr (fun _ _ _ z => z) (fun _ _ _ z => z) ⟨ρ, k, q.bind.mono fun d ρ1 H1 _ s1 k1 q1 v r => by
    cases r with
    | bl b => exact ⟨b, rfl, q1 H1 Stable.rfl k1⟩
    | _ => exact q1.elim⟩
/-! ### and, or, not -/
def DW (X : Cx) (G : Gh) (W : WX) (e : Expr) (f : M Bool) : Prop := PW X e (tT G W f)
def andM (f g : M Bool) : M Bool := bindM f fun b => match b with
  | true => g
  | false => pureM false
def orM (f g : M Bool) : M Bool := bindM f fun b => match b with
  | true => pureM true
  | false => g
def notM (f : M Bool) : M Bool := bindM f fun b => pureM (!b)
theorem dw_and1 {f : M Bool} (h : DT X G W a f) : DW X G W (.BoolOp .And [a] pos) f := pw_and1 h
theorem dw_or1 {f : M Bool} (h : DT X G W a f) : DW X G W (.BoolOp .Or [a] pos) f := pw_or1 h
theorem dw_and {rest : List Expr} {f g : M Bool} (ha : DT X G W a f) (hb : DW X G W (.BoolOp .And (b :: rest) pos) g) : DW X G W (.BoolOp .And (a :: b :: rest) pos) (andM f g) :=
  pw_imp (pw_and ha hb) fun σ H Q ⟨ρ, k, q⟩ => ⟨ρ, k, q.bind.mono fun c ρ1 H1 _ s1 k1 q1 => by
    cases c with
    | true => rw [if_pos rfl]; exact ⟨ρ1, k1, q1⟩
    | false => rw [if_neg (by decide)]; exact q1 H1 Stable.rfl k1⟩
theorem dw_or {rest : List Expr} {f g : M Bool} (ha : DT X G W a f) (hb : DW X G W (.BoolOp .Or (b :: rest) pos) g) : DW X G W (.BoolOp .Or (a :: b :: rest) pos) (orM f g) :=
  pw_imp (pw_or ha hb) fun σ H Q ⟨ρ, k, q⟩ => ⟨ρ, k, q.bind.mono fun c ρ1 H1 _ s1 k1 q1 => by
    cases c with
    | true => rw [if_pos rfl]; exact q1 H1 Stable.rfl k1
    | false => rw [if_neg (by decide)]; exact ⟨ρ1, k1, q1⟩⟩
theorem dt_w {f : M Bool} (h : DW X G W e f) : DT X G W e f := h.pt
theorem dt_not {f : M Bool} (h : DT X G W a f) : DT X G W (.UnaryOp .Not a pos) (notM f) :=
  pt_imp (pt_not h) fun σ H Q ⟨ρ, k, q⟩ => ⟨ρ, k, q.bind.mono fun c ρ1 H1 _ s1 k1 q1 => q1 H1 Stable.rfl k1⟩
/-- values -/
def andV (f g : M D) : M D := bindM f fun b => match b with
  | .bl true => g
  | .bl false => pureM (.bl false)
  | _ => stuckM
def orV (f g : M D) : M D := bindM f fun b => match b with
  | .bl true => pureM (.bl true)
  | .bl false => g
  | _ => stuckM
def notV (f : M D) : M D := bindM f fun b => match b with
  | .bl b => pureM (.bl (!b))
  | _ => stuckM
theorem de_one {op} {f : M D} (h : DE X G W a f) : DE X G W (.BoolOp op [a] pos) f := pe_one h
theorem de_and {rest : List Expr} {f g : M D} (ha : DE X G W a f) (hb : DE X G W (.BoolOp .And (b :: rest) pos) g) : DE X G W (.BoolOp .And (a :: b :: rest) pos) (andV f g) :=
  pe_imp (pe_and ha hb) fun σ H Q ⟨ρ, k, q⟩ => ⟨ρ, k, q.bind.mono fun c ρ1 H1 _ s1 k1 q1 v r => by
    cases r with
    | bl b =>
      refine ⟨b, rfl, ?_⟩
      cases b with
      | true => rw [if_pos rfl]; exact ⟨ρ1, k1, q1⟩
      | false => rw [if_neg (by decide)]; exact q1 H1 Stable.rfl k1 _ (.bl false)
    | _ => exact q1.elim⟩
theorem de_or {rest : List Expr} {f g : M D} (ha : DE X G W a f) (hb : DE X G W (.BoolOp .Or (b :: rest) pos) g) : DE X G W (.BoolOp .Or (a :: b :: rest) pos) (orV f g) :=
  pe_imp (pe_or ha hb) fun σ H Q ⟨ρ, k, q⟩ => ⟨ρ, k, q.bind.mono fun c ρ1 H1 _ s1 k1 q1 v r => by
    cases r with
    | bl b =>
      refine ⟨b, rfl, ?_⟩
      cases b with
      | true => rw [if_pos rfl]; exact q1 H1 Stable.rfl k1 _ (.bl true)
      | false => rw [if_neg (by decide)]; exact ⟨ρ1, k1, q1⟩
    | _ => exact q1.elim⟩
theorem de_not {f : M D} (h : DE X G W a f) : DE X G W (.UnaryOp .Not a pos) (notV f) :=
  pe_imp (pe_not h) fun σ H Q ⟨ρ, k, q⟩ => ⟨ρ, k, q.bind.mono fun c ρ1 H1 _ s1 k1 q1 v r => by
    cases r with
    | bl b => exact ⟨b, rfl, q1 H1 Stable.rfl k1 _ (.bl (!b))⟩
    | _ => exact q1.elim⟩
def iteM {α : Type} (c : M Bool) (f g : M α) : M α := bindM c fun b => match b with
  | true => f
  | false => g
theorem de_if {c : Expr} {t : M Bool} {f g : M D} (hc : DT X G W c t) (ha : DE X G W a f) (hb : DE X G W b g) : DE X G W (.IfExp c a b pos) (iteM t f g) :=
  pe_imp (pe_ifExp hc ha hb) fun σ H Q ⟨ρ, k, q⟩ => ⟨ρ, k, q.bind.mono fun c ρ1 H1 _ s1 k1 q1 => by
    cases c with
    | true => rw [if_pos rfl]; exact ⟨ρ1, k1, q1⟩
    | false => rw [if_neg (by decide)]; exact ⟨ρ1, k1, q1⟩⟩
/-- x is None -/
def isNb : D → Bool
  | .non => true
  | _ => false
def isN (f : M D) : M D := bindM f fun d => pureM (.bl (isNb d))
def notN (f : M D) : M D := bindM f fun d => pureM (.bl (!isNb d))
theorem Rep.isN {m : Md} {H : Hp} {v : V} {d : D} (r : Rep m H v d) : decide (v = V.non) = isNb d := by
  cases r <;> simp [isNb]
theorem de_isN {j pos'} {f : M D} (h : DE X G W a f) : DE X G W (.Compare a [.Is] [.Constant .none j pos'] pos) (isN f) :=
  pe_imp (pe_cmp (pc_isN h)) fun σ H Q ⟨ρ, k, q⟩ => ⟨ρ, k, q.bind.mono fun c ρ1 H1 _ s1 k1 q1 v r => by
    show Q (.bl (decide (v = .non))) H1
    rw [r.isN]; exact q1 H1 Stable.rfl k1 _ (.bl _)⟩
theorem de_notN {j pos'} {f : M D} (h : DE X G W a f) : DE X G W (.Compare a [.IsNot] [.Constant .none j pos'] pos) (notN f) :=
  pe_imp (pe_cmp (pc_notN h)) fun σ H Q ⟨ρ, k, q⟩ => ⟨ρ, k, q.bind.mono fun c ρ1 H1 _ s1 k1 q1 v r => by
    show Q (.bl (!decide (v = .non))) H1
    rw [r.isN]; exact q1 H1 Stable.rfl k1 _ (.bl _)⟩
theorem dt_isN {j pos'} {f : M D} (h : DE X G W a f) : DT X G W (.Compare a [.Is] [.Constant .none j pos'] pos) (boolM (isN f)) :=
  pt_imp (pt_cmp (pc_isN h)) fun σ H Q ⟨ρ, k, q⟩ => ⟨ρ, k, q.bind.bind.mono fun c ρ1 H1 _ s1 k1 q1 v r => by
    refine ⟨_, rfl, ?_⟩
    rw [r.isN]; exact q1 H1 Stable.rfl k1 H1 Stable.rfl k1⟩
theorem dt_notN {j pos'} {f : M D} (h : DE X G W a f) : DT X G W (.Compare a [.IsNot] [.Constant .none j pos'] pos) (boolM (notN f)) :=
  pt_imp (pt_cmp (pc_notN h)) fun σ H Q ⟨ρ, k, q⟩ => ⟨ρ, k, q.bind.bind.mono fun c ρ1 H1 _ s1 k1 q1 v r => by
    refine ⟨_, rfl, ?_⟩
    rw [r.isN]; exact q1 H1 Stable.rfl k1 H1 Stable.rfl k1⟩

/-! ### arguments, displays -/
theorem da_nil : DA X G W [] (pureM []) := pa_imp pa_nil fun σ H Q ⟨ρ, k, q⟩ => q H Stable.rfl k _ .nil
def consM (f : M D) (g : M (List D)) : M (List D) := bindM f fun x => bindM g fun xs => pureM (x :: xs)
theorem da_cons {es : List Expr} {f : M D} {g : M (List D)} (ha : DE X G W e f) (hr : DA X G W es g) (hs : starEach (e :: es) X.env = (false, eval e X.env) :: starEach es X.env := by rfl) : DA X G W (e :: es) (consM f g) :=
  pa_imp (pa_cons ha hr hs) fun σ H Q ⟨ρ, k, q⟩ => ⟨ρ, k, q.bind.mono fun x ρ1 H1 _ s1 k1 q1 v r => ⟨ρ1, k1, q1.bind.mono fun xs ρ2 H2 _ s2 k2 q2 vs rs => q2 H2 Stable.rfl k2 _ (.cons (r.st s2) rs)⟩⟩
def sizeM (f : M (List D)) : M (List D) := bindM f fun xs => if xs.length ≤ sizeLine then pureM xs else stuckM
theorem do_lst {es : List Expr} {f : M (List D)} (h : DA X G W es f) : DO X G W (.List es pos) (sizeM f) :=
  pe_imp (pe_lst h) fun σ H Q ⟨ρ, k, q⟩ => ⟨ρ, k, q.bind.mono fun xs ρ1 H1 _ s1 k1 q1 vs r => by
    by_cases hz : xs.length ≤ sizeLine
    · rw [if_pos hz] at q1
      refine ⟨by rw [r.len]; exact hz, fun p hp => ?_⟩
      have g := Grow.new (o := .lst vs) hp
      exact q1 _ g.stable (k1.grow g) p vs upd_same (r.st g.stable) (k1.fresh hp)
    · rw [if_neg hz] at q1; exact q1.elim⟩
def tupM (f : M (List D)) : M D := bindM (sizeM f) fun xs => pureM (.tup xs)
theorem de_tup {x1} {es : List Expr} {f : M (List D)} (h : DA X G W es f) : DE X G W (.Tuple es x1 pos) (tupM f) :=
  pe_imp (pe_tup h) fun σ H Q ⟨ρ, k, q⟩ => ⟨ρ, k, q.bind.bind.mono fun xs ρ1 H1 _ s1 k1 q1 vs r => by
    by_cases hz : xs.length ≤ sizeLine
    · rw [if_pos hz] at q1
      refine ⟨by rw [r.len]; exact hz, fun p hp => ?_⟩
      have g := Grow.new (o := .tup vs) hp
      exact q1 H1 Stable.rfl k1 _ g.stable (k1.grow g) _ (.tup (SqT.of upd_same) (r.st g.stable))
    · rw [if_neg hz] at q1; exact q1.elim⟩

/-! ### calls of builtins -/
def CallD (m : Md) (r : List V → Hp → VK → Prop) (g : List D → Option D) : Prop := ∀ (vs : List V) (ds : List D) (d : D) (H : Hp) (Q : VK), RepL m H vs ds → g ds = some d → (∀ v H', Grow H H' → Rep m H' v d → Q v H') → r vs H Q
def CallO (m : Md) (r : List V → Hp → VK → Prop) (g : List D → Option (List D)) : Prop := ∀ (vs : List V) (ds d : List D) (H : Hp) (Q : VK), RepL m H vs ds → g ds = some d → (∀ p ws H', Grow H H' → H p = none → H' p = some (.lst ws) → RepL m H' ws d → Q (.ref p) H') → r vs H Q
def callD (g : List D → Option D) (f : M (List D)) : M D := bindM f fun xs => liftM (g xs)
def callO (g : List D → Option (List D)) (f : M (List D)) : M (List D) := bindM f fun xs => liftM (g xs)
theorem callD_run {t : TA} {r : List V → Hp → VK → Prop} {g : List D → Option D} {f : M (List D)} (hr : CallD G.m r g) (ia : ∀ σ H Q, aT G W f σ H Q → t σ H Q) {σ : L2.St} {H : Hp} {Q : VK} (h : dT G W (callD g f) σ H Q) : tCB r t σ H Q := by
  obtain ⟨ρ, k, q⟩ := h
  refine ia _ _ _ ⟨ρ, k, q.bind.mono fun xs ρ1 H1 _ s1 k1 q1 vs rv => ?_⟩
  obtain ⟨d, e, q3⟩ := q1.lift k1
  exact hr vs xs d H1 Q rv e fun u H3 g3 r3 => q3 H3 g3.stable (k1.grow g3) u r3
theorem callO_run {t : TA} {r : List V → Hp → VK → Prop} {g : List D → Option (List D)} {f : M (List D)} (hr : CallO G.m r g) (ia : ∀ σ H Q, aT G W f σ H Q → t σ H Q) {σ : L2.St} {H : Hp} {Q : VK} (h : oT G W (callO g f) σ H Q) : tCB r t σ H Q := by
  obtain ⟨ρ, k, q⟩ := h
  refine ia _ _ _ ⟨ρ, k, q.bind.mono fun xs ρ1 H1 _ s1 k1 q1 vs rv => ?_⟩
  obtain ⟨d, e, q3⟩ := q1.lift k1
  exact hr vs xs d H1 Q rv e fun p ws H3 g3 hp h3 r3 => q3 H3 g3.stable (k1.grow g3) p ws h3 r3 (k1.fresh hp)
variable {x : Str} {p : Pos} {es : List Expr} {id T : String}
theorem de_callB {r : List V → Hp → VK → Prop} {g : List D → Option D} {f : M (List D)} (hc : CallR X (.builtin id) r) (hr : CallD G.m r g) (hg : Gl X x) (hm : X.mg x = none) (hv : bootBuiltins x = some (.builtin id)) (ha : DA X G W (e :: es) f) (hn : x ≠ "__name__" := by decide) (hdb : (x == ("__debug__" : Str)) = false := by decide)
    (he : starEach (e :: es) X.env = (false, eval e X.env) :: starEach es X.env := by rfl) (hpl : (backTo pos (starEach es X.env)).any (·.1) = false := by rfl) : DE X G W (.Call (.Name x p) (e :: es) [] pos) (callD g f) :=
  pe_imp (pe_callB hc hg hm hv ha hn hdb he hpl) fun σ H Q h => callD_run hr (fun _ _ _ z => z) h
theorem de_callTy {r : List V → Hp → VK → Prop} {g : List D → Option D} {f : M (List D)} (hc : CallR X (.type T) r) (hr : CallD G.m r g) (hg : Gl X x) (hm : X.mg x = none) (hv : bootBuiltins x = some (.type T)) (ha : DA X G W (e :: es) f) (hn : x ≠ "__name__" := by decide) (hdb : (x == ("__debug__" : Str)) = false := by decide)
    (he : starEach (e :: es) X.env = (false, eval e X.env) :: starEach es X.env := by rfl) (hpl : (backTo pos (starEach es X.env)).any (·.1) = false := by rfl) : DE X G W (.Call (.Name x p) (e :: es) [] pos) (callD g f) :=
  pe_imp (pe_callTy hc hg hm hv ha hn hdb he hpl) fun σ H Q h => callD_run hr (fun _ _ _ z => z) h
theorem do_callB {r : List V → Hp → VK → Prop} {g : List D → Option (List D)} {f : M (List D)} (hc : CallR X (.builtin id) r) (hr : CallO G.m r g) (hg : Gl X x) (hm : X.mg x = none) (hv : bootBuiltins x = some (.builtin id)) (ha : DA X G W (e :: es) f) (hn : x ≠ "__name__" := by decide) (hdb : (x == ("__debug__" : Str)) = false := by decide)
    (he : starEach (e :: es) X.env = (false, eval e X.env) :: starEach es X.env := by rfl) (hpl : (backTo pos (starEach es X.env)).any (·.1) = false := by rfl) : DO X G W (.Call (.Name x p) (e :: es) [] pos) (callO g f) :=
  pe_imp (pe_callB hc hg hm hv ha hn hdb he hpl) fun σ H Q h => callO_run hr (fun _ _ _ z => z) h
theorem do_callTy {r : List V → Hp → VK → Prop} {g : List D → Option (List D)} {f : M (List D)} (hc : CallR X (.type T) r) (hr : CallO G.m r g) (hg : Gl X x) (hm : X.mg x = none) (hv : bootBuiltins x = some (.type T)) (ha : DA X G W (e :: es) f) (hn : x ≠ "__name__" := by decide) (hdb : (x == ("__debug__" : Str)) = false := by decide)
    (he : starEach (e :: es) X.env = (false, eval e X.env) :: starEach es X.env := by rfl) (hpl : (backTo pos (starEach es X.env)).any (·.1) = false := by rfl) : DO X G W (.Call (.Name x p) (e :: es) [] pos) (callO g f) :=
  pe_imp (pe_callTy hc hg hm hv ha hn hdb he hpl) fun σ H Q h => callO_run hr (fun _ _ _ z => z) h
end
end DL
end
section
namespace DL
open PySem PySem.Spec L2
open PyProof.Rows hiding St

/-! ### stores into the slots -/
section
variable {G : Gh} {σ : L2.St} {H H' : Hp} {ρ : Env} {a p : Addr} {o : HO}
theorem set_get {α : Type} {l : List α} {i j : Nat} {x y : α} (h : (l.set i x)[j]? = some y) : (i = j ∧ y = x ∧ i < l.length) ∨ (i ≠ j ∧ l[j]? = some y) := by
  by_cases e : i = j
  · subst e
    rw [List.getElem?_set_self'] at h
    cases q : l[i]? with
    | none => rw [q] at h; simp at h
    | some z =>
      rw [q] at h; simp at h
      exact .inl ⟨rfl, h.symm, (List.getElem?_eq_some_iff.mp q).1⟩
  · rw [List.getElem?_set_ne e] at h
    exact .inr ⟨e, h⟩
/-- slot i is stored; the rest stands -/
theorem StOk.setD (k : StOk G σ H ρ) {i : Nat} {v : V} {d : D} (hp : ∀ p ∈ G.pr, p.1 ≠ i) (r : Rep G.m H v d) : StOk G (σ.set i (some v)) H (ρ.set i (.d d)) where
  len := by simp [k.len]
  dat := fun j x h => by
    rcases set_get h with ⟨e, e2, hl⟩ | ⟨e, h⟩
    · subst e; cases e2
      exact ⟨v, by rw [List.getElem?_set_self (by rw [k.len]; exact hl)], r⟩
    · obtain ⟨w, h1, h2⟩ := k.dat j x h
      exact ⟨w, by rw [List.getElem?_set_ne e]; exact h1, h2⟩
  own := fun j xs h => by
    rcases set_get h with ⟨e, e2, hl⟩ | ⟨e, h⟩
    · cases e2
    · obtain ⟨b, vs, h1, h2⟩ := k.own j xs h
      exact ⟨b, vs, by rw [List.getElem?_set_ne e]; exact h1, h2⟩
  sep := fun j l xs ys b ne h1 h2 h3 => by
    rcases set_get h1 with ⟨e, e2, hl⟩ | ⟨e, h1⟩
    · cases e2
    rcases set_get h2 with ⟨e', e2, hl⟩ | ⟨e', h2⟩
    · cases e2
    rw [List.getElem?_set_ne e] at h3
    rw [List.getElem?_set_ne e']
    exact k.sep j l xs ys b ne h1 h2 h3
  prot := fun p hm => by
    obtain ⟨h1, xs, h2⟩ := k.prot p hm
    have ne : i ≠ p.1 := fun e => hp p hm e.symm
    exact ⟨by rw [List.getElem?_set_ne ne]; exact h1, xs, by rw [List.getElem?_set_ne ne]; exact h2⟩
  keep := k.keep
  exn := fun j c h => by
    rcases set_get h with ⟨e, e2, hl⟩ | ⟨e, h⟩
    · cases e2
    · obtain ⟨b, h1, h2⟩ := k.exn j c h
      exact ⟨b, h1, by rw [List.getElem?_set_ne e]; exact h2⟩
theorem StOk.setO (k : StOk G σ H ρ) {i : Nat} {vs : List V} {ds : List D} (hp : ∀ p ∈ G.pr, p.1 ≠ i) (ha : H a = some (.lst vs)) (r : RepL G.m H vs ds) (f : Fresh G σ ρ a) : StOk G (σ.set i (some (.ref a))) H (ρ.set i (.own ds)) where
  len := by simp [k.len]
  dat := fun j x h => by
    rcases set_get h with ⟨e, e2, hl⟩ | ⟨e, h⟩
    · cases e2
    · obtain ⟨w, h1, h2⟩ := k.dat j x h
      exact ⟨w, by rw [List.getElem?_set_ne e]; exact h1, h2⟩
  own := fun j xs h => by
    rcases set_get h with ⟨e, e2, hl⟩ | ⟨e, h⟩
    · subst e; cases e2
      exact ⟨a, vs, by rw [List.getElem?_set_self (by rw [k.len]; exact hl)], ha, r, fun _ => ⟨f.1, f.2.1⟩⟩
    · obtain ⟨b, vs, h1, h2⟩ := k.own j xs h
      exact ⟨b, vs, by rw [List.getElem?_set_ne e]; exact h1, h2⟩
  sep := fun j l xs ys b ne h1 h2 h3 => by
    rcases set_get h1 with ⟨e, e2, hl⟩ | ⟨e, h1⟩
    · subst e; cases e2
      rw [List.getElem?_set_self (by rw [k.len]; exact hl)] at h3
      injection h3 with h3; injection h3 with h3; injection h3 with h3
      subst h3
      rcases set_get h2 with ⟨e', e2, hl⟩ | ⟨e', h2⟩
      · exact absurd e' ne
      · rw [List.getElem?_set_ne e']
        exact f.2.2 l ys h2
    · rw [List.getElem?_set_ne e] at h3
      rcases set_get h2 with ⟨e', e2, hl⟩ | ⟨e', h2⟩
      · subst e'; cases e2
        rw [List.getElem?_set_self (by rw [k.len]; exact hl)]
        intro h4
        injection h4 with h4; injection h4 with h4; injection h4 with h4
        subst h4
        exact f.2.2 j xs h1 h3
      · rw [List.getElem?_set_ne e']
        exact k.sep j l xs ys b ne h1 h2 h3
  prot := fun p hm => by
    obtain ⟨h1, xs, h2⟩ := k.prot p hm
    have ne : i ≠ p.1 := fun e => hp p hm e.symm
    exact ⟨by rw [List.getElem?_set_ne ne]; exact h1, xs, by rw [List.getElem?_set_ne ne]; exact h2⟩
  keep := k.keep
  exn := fun j c h => by
    rcases set_get h with ⟨e, e2, hl⟩ | ⟨e, h⟩
    · cases e2
    · obtain ⟨b, h1, h2⟩ := k.exn j c h
      exact ⟨b, h1, by rw [List.getElem?_set_ne e]; exact h2⟩
/-- an own list's content is written -/
theorem StOk.wrote (k : StOk G σ H ρ) {i : Nat} {xs : List D} {vs : List V} {ds : List D} (hi : ρ[i]? = some (.own xs)) (ha : σ[i]? = some (some (.ref a))) (r : RepL G.m H vs ds) : StOk G σ (L2.upd H a (.lst vs)) (ρ.set i (.own ds)) := by
  obtain ⟨a', vs0, h1, h2, h3, h4⟩ := k.own i xs hi
  rw [ha] at h1; injection h1 with h1; injection h1 with h1; injection h1 with h1
  subst h1
  have st : Stable H (L2.upd H a (.lst vs)) := fun b u hb fx => by
    by_cases e : b = a
    · subst e; rw [h2] at hb; cases hb; exact fx.elim
    · rw [upd_ne e]; exact hb
  have hl : i < ρ.length := (List.getElem?_eq_some_iff.mp hi).1
  refine ⟨by simp [k.len], fun j x h => ?_, fun j ys h => ?_, fun j l ys zs b ne e1 e2 e3 => ?_, fun p hm => ?_, fun b u e1 e2 => ?_, fun j c h => ?_⟩
  · rcases set_get h with ⟨e, e2, hl⟩ | ⟨e, h⟩
    · cases e2
    · obtain ⟨w, q1, q2⟩ := k.dat j x h
      exact ⟨w, q1, q2.st st⟩
  · rcases set_get h with ⟨e, e2, hl⟩ | ⟨e, h⟩
    · subst e; cases e2
      exact ⟨a, vs, ha, upd_same, r.st st, h4⟩
    · obtain ⟨b, ws, q1, q2, q3, q4⟩ := k.own j ys h
      refine ⟨b, ws, q1, ?_, q3.st st, q4⟩
      rw [upd_ne]
      · exact q2
      · intro z; subst z
        exact k.sep i j xs ys b e hi h ha q1
  · have o1 : ∃ us, ρ[j]? = some (.own us) := by
      rcases set_get e1 with ⟨e, _, _⟩ | ⟨_, h⟩
      · subst e; exact ⟨xs, hi⟩
      · exact ⟨_, h⟩
    have o2 : ∃ us, ρ[l]? = some (.own us) := by
      rcases set_get e2 with ⟨e, _, _⟩ | ⟨_, h⟩
      · subst e; exact ⟨xs, hi⟩
      · exact ⟨_, h⟩
    obtain ⟨u1, o1⟩ := o1
    obtain ⟨u2, o2⟩ := o2
    exact k.sep j l u1 u2 b ne o1 o2 e3
  · obtain ⟨q1, ys, q2⟩ := k.prot p hm
    refine ⟨q1, ?_⟩
    by_cases e : i = p.1
    · exact ⟨ds, by rw [← e, List.getElem?_set_self hl]⟩
    · exact ⟨ys, by rw [List.getElem?_set_ne e]; exact q2⟩
  · have : b ≠ a := by
      intro z; subst z
      by_cases c : ∀ p ∈ G.pr, p.1 ≠ i
      · have q := (h4 c).1
        rw [e1] at q; cases q
      · apply c
        intro p hp z
        obtain ⟨q1, _⟩ := k.prot p hp
        rw [z, ha] at q1
        injection q1 with q1; injection q1 with q1; injection q1 with q1
        exact e2 p hp q1.symm
    rw [upd_ne this]; exact k.keep b u e1 e2
  · rcases set_get h with ⟨e, e2, hl⟩ | ⟨e, h⟩
    · cases e2
    · exact k.exn j c h
/-- an own slot becomes data: its list is frozen -/
theorem StOk.froze (k : StOk G σ H ρ) {i : Nat} {xs : List D} {vs : List V} {ob : Obj} (hp : ∀ p ∈ G.pr, p.1 ≠ i) (hi : ρ[i]? = some (.own xs)) (ha : σ[i]? = some (some (.ref a))) (hv : H a = some (.lst vs)) (r : RepL G.m H vs xs) : StOk G σ (L2.upd H a (.frz ob (.lst vs))) (ρ.set i (.d (.lst xs))) := by
  obtain ⟨a', vs0, h1, h2, h3, h4⟩ := k.own i xs hi
  rw [ha] at h1; injection h1 with h1; injection h1 with h1; injection h1 with h1
  subst h1
  have st : Stable H (L2.upd H a (.frz ob (.lst vs))) := Stable.upd hv trivial
  have hl : i < ρ.length := (List.getElem?_eq_some_iff.mp hi).1
  refine ⟨by simp [k.len], fun j x h => ?_, fun j ys h => ?_, fun j l ys zs b ne e1 e2 e3 => ?_, fun p hm => ?_, fun b u e1 e2 => ?_, fun j c h => ?_⟩
  · rcases set_get h with ⟨e, e2, hl⟩ | ⟨e, h⟩
    · subst e; cases e2
      exact ⟨_, ha, .lst (.inl ⟨ob, upd_same⟩) (r.st st)⟩
    · obtain ⟨w, q1, q2⟩ := k.dat j x h
      exact ⟨w, q1, q2.st st⟩
  · rcases set_get h with ⟨e, e2, hl⟩ | ⟨e, h⟩
    · cases e2
    · obtain ⟨b, ws, q1, q2, q3, q4⟩ := k.own j ys h
      refine ⟨b, ws, q1, ?_, q3.st st, q4⟩
      rw [upd_ne]
      · exact q2
      · intro z; subst z
        exact k.sep i j xs ys b e hi h ha q1
  · rcases set_get e1 with ⟨e, q, _⟩ | ⟨_, g1⟩
    · cases q
    rcases set_get e2 with ⟨e, q, _⟩ | ⟨_, g2⟩
    · cases q
    exact k.sep j l ys zs b ne g1 g2 e3
  · obtain ⟨q1, ys, q2⟩ := k.prot p hm
    have e : i ≠ p.1 := fun z => hp p hm z.symm
    exact ⟨q1, ys, by rw [List.getElem?_set_ne e]; exact q2⟩
  · have : b ≠ a := by
      intro z; subst z
      have q := (h4 hp).1
      rw [e1] at q; cases q
    rw [upd_ne this]; exact k.keep b u e1 e2
  · rcases set_get h with ⟨e, e2, hl⟩ | ⟨e, h⟩
    · cases e2
    · exact k.exn j c h
end

/-! ### own lists in expressions -/
section
variable {X : Cx} {G : Gh} {W : WX} {e a b : Expr} {pos : Pos}
theorem getO_run {i : Nat} {ρ : Env} {σ : L2.St} {H : Hp} {β : Type} {k : List D → M β} {Q : β → Env → Hp → Prop} (h : postG G W σ H (bindM (getO i) k ρ) Q) : ∃ xs, ρ[i]? = some (.own xs) ∧ postG G W σ H (k xs ρ) Q := by
  unfold bindM at h
  cases e : ρ[i]? with
  | none =>
    have e2 : getO i ρ = .stuck := by unfold getO; rw [e]
    rw [e2] at h; exact h.elim
  | some sl =>
    cases sl with
    | own xs =>
      have e2 : getO i ρ = .ok xs ρ := by unfold getO; rw [e]
      rw [e2] at h; exact ⟨xs, rfl, h⟩
    | _ =>
      have e2 : getO i ρ = .stuck := by unfold getO; rw [e]
      rw [e2] at h; exact h.elim
/-- the own list in slot i, frozen from here on -/
def frzM (i : Nat) : M D := bindM (getO i) fun xs => bindM (putD i (.lst xs)) fun _ => pureM (.lst xs)
def pfree (G : Gh) (i : Nat) : Prop := ∀ p ∈ G.pr, p.1 ≠ i
theorem de_frz (i : Nat) {x : Str} (hp : pfree G i) (hN : X.N[i]? = some x) (hv : Vis X.env.scope x := by first | exact .inl rfl | exact .inr (.inl rfl) | exact .inr (.inr rfl)) (hd : (x == ("__debug__" : Str)) = false := by decide) (hcd : (x == ("__classdict__" : Str)) = false := by decide) :
    DE X G W (.Name x pos) (frzM i) := pe_imp (pe_fz (pe_var (i := i) hN hv hd hcd)) fun σ H Q ⟨ρ, k, q⟩ => by
  obtain ⟨xs, e, q⟩ := getO_run q
  obtain ⟨a, vs, h1, h2, h3, h4⟩ := k.own i xs e
  refine ⟨_, h1, .inr ⟨a, _, rfl, h2, trivial, fun o => ?_⟩⟩
  have st : Stable H (upd H a (.frz o (.lst vs))) := Stable.upd h2 trivial
  exact q _ st (k.froze hp e h1 h2 h3) _ (.lst (.inl ⟨o, upd_same⟩) (h3.st st))
/-- the slot's data; an own list is frozen -/
def rdM (i : Nat) : M D := fun ρ => match ρ[i]? with
  | some (.d x) => .ok x ρ
  | some (.own xs) => .ok (.lst xs) (ρ.set i (.d (.lst xs)))
  | _ => .stuck
theorem de_rd (i : Nat) {x : Str} (hp : pfree G i) (hN : X.N[i]? = some x) (hv : Vis X.env.scope x := by first | exact .inl rfl | exact .inr (.inl rfl) | exact .inr (.inr rfl)) (hd : (x == ("__debug__" : Str)) = false := by decide) (hcd : (x == ("__classdict__" : Str)) = false := by decide) :
    DE X G W (.Name x pos) (rdM i) := pe_imp (pe_fz (pe_var (i := i) hN hv hd hcd)) fun σ H Q ⟨ρ, k, q⟩ => by
  unfold rdM at q
  cases e : ρ[i]? with
  | none => simp only [e] at q; exact q.elim
  | some sl =>
    cases sl with
    | no => simp only [e] at q; exact q.elim
    | exn c => simp only [e] at q; exact q.elim
    | d y =>
      simp only [e] at q
      obtain ⟨v, h1, h2⟩ := k.dat i y e
      exact ⟨v, h1, .inl (q H Stable.rfl k v h2)⟩
    | own xs =>
      simp only [e] at q
      obtain ⟨a, vs, h1, h2, h3, h4⟩ := k.own i xs e
      refine ⟨_, h1, .inr ⟨a, _, rfl, h2, trivial, fun o => ?_⟩⟩
      have st : Stable H (upd H a (.frz o (.lst vs))) := Stable.upd h2 trivial
      exact q _ st (k.froze hp e h1 h2 h3) _ (.lst (.inl ⟨o, upd_same⟩) (h3.st st))
/-- the own list in slot i is handed on as a list of its own (a return) -/
def giveM (i : Nat) : M (List D) := bindM (getO i) fun xs => fun ρ => .ok xs (ρ.set i .no)
theorem do_give (i : Nat) {x : Str} (hp : pfree G i) (hN : X.N[i]? = some x) (hv : Vis X.env.scope x := by first | exact .inl rfl | exact .inr (.inl rfl) | exact .inr (.inr rfl)) (hd : (x == ("__debug__" : Str)) = false := by decide) (hcd : (x == ("__classdict__" : Str)) = false := by decide) :
    DO X G W (.Name x pos) (giveM i) := pe_imp (pe_var (i := i) hN hv hd hcd) fun σ H Q ⟨ρ, k, q⟩ => by
  obtain ⟨xs, e, q⟩ := getO_run q
  obtain ⟨a, vs, h1, h2, h3, h4⟩ := k.own i xs e
  refine ⟨_, h1, ?_⟩
  have sub : ∀ {j s}, (ρ.set i .no)[j]? = some s → s ≠ Sl.no → j ≠ i ∧ ρ[j]? = some s := fun {j s} h hs => by
    rcases set_get h with ⟨_, e2, _⟩ | ⟨e, h⟩
    · exact absurd e2 hs
    · exact ⟨fun z => e z.symm, h⟩
  have k' : StOk G σ H (ρ.set i .no) := ⟨by simp [k.len], fun j x h => k.dat j x (sub h (fun z => nomatch z)).2, fun j ys h => k.own j ys (sub h (fun z => nomatch z)).2,
    fun j l ys zs b ne e1 e2 => k.sep j l ys zs b ne (sub e1 (fun z => nomatch z)).2 (sub e2 (fun z => nomatch z)).2, fun p hm => by
      obtain ⟨q1, ys, q2⟩ := k.prot p hm
      exact ⟨q1, ys, by rw [List.getElem?_set_ne (fun z => hp p hm z.symm)]; exact q2⟩, k.keep, fun j c h => k.exn j c (sub h (fun z => nomatch z)).2⟩
  exact q H Stable.rfl k' a vs h2 h3 ⟨(h4 hp).1, (h4 hp).2, fun j ys h z => k.sep i j xs ys a (fun w => (sub h (fun z => nomatch z)).1 w.symm) e (sub h (fun z => nomatch z)).2 h1 z⟩
/-- an operation whose left side is an own list, read -/
def OpO (m : Md) (r : R2) (g : List D → D → Option D) : Prop := ∀ (a : Addr) (vs : List V) (y : V) (xs : List D) (dy d : D) (H : Hp) (Q : VK), H a = some (.lst vs) → RepL m H vs xs → Rep m H y dy → g xs dy = some d → (∀ v H', Grow H H' → Rep m H' v d → Q v H') → r (.ref a) y H Q
def opO (i : Nat) (g : List D → D → Option D) (fb : M D) : M D := bindM fb fun y => bindM (getO i) fun xs => liftM (g xs y)
/-- o[e], o an own list: the place is read ahead of e; e may change the list's content, not its place -/
theorem own_same {ρ ρ1 : Env} {σ : L2.St} {H H1 : Hp} {i : Nat} {xs : List D} (k1 : StOk G σ H1 ρ1) (h : ρ1[i]? = some (.own xs)) : ∃ a vs, σ[i]? = some (some (.ref a)) ∧ H1 a = some (.lst vs) ∧ RepL G.m H1 vs xs := by
  obtain ⟨a, vs, h1, h2, h3, _⟩ := k1.own i xs h
  exact ⟨a, vs, h1, h2, h3⟩
theorem de_ixO (i : Nat) {x : Str} {r : R2} {g : List D → D → Option D} {fb : M D} {pos' : Pos} (ho : IxR X r) (hr : OpO G.m r g) (hb : DE X G W b fb) (hN : X.N[i]? = some x) (hv : Vis X.env.scope x := by first | exact .inl rfl | exact .inr (.inl rfl) | exact .inr (.inr rfl)) (hs : PlainIx b := by exact fun _ _ => rfl) (hd : (x == ("__debug__" : Str)) = false := by decide) (hcd : (x == ("__classdict__" : Str)) = false := by decide) :
    DE X G W (.Subscript (.Name x pos') b pos) (bindM (getO i) fun _ => opO i g fb) := pe_imp (pe_ix ho (pe_var (i := i) hN hv hd hcd) hb hs) fun σ H Q ⟨ρ, k, q⟩ => by
  obtain ⟨xs0, e0, q⟩ := getO_run q
  obtain ⟨a, vs0, h1, _⟩ := k.own i xs0 e0
  refine ⟨_, h1, ρ, k, q.bind.mono fun y ρ1 H1 _ s1 k1 q1 w rw' => ?_⟩
  obtain ⟨xs, e1, q1⟩ := getO_run q1
  obtain ⟨a', vs, g1, g2, g3, _⟩ := k1.own i xs e1
  rw [h1] at g1; injection g1 with g1; injection g1 with g1; injection g1 with g1
  subst g1
  obtain ⟨d, e, q3⟩ := q1.lift k1
  exact hr a vs w xs y d H1 Q g2 g3 rw' e fun u H3 g3 r3 => q3 H3 g3.stable (k1.grow g3) u r3
end
end DL
end
section
namespace DL
open PySem PySem.Spec L2
open PyProof.Rows hiding St

/-! ### statements -/
def RetOk (rm : Bool) (G : Gh) (H : Hp) (v : V) (d : D) : Prop := match rm with
  | false => Rep G.m H v d
  | true => ∃ a vs ds, v = .ref a ∧ d = .lst ds ∧ H a = some (.lst vs) ∧ RepL G.m H vs ds ∧ G.H0 a = none ∧ ∀ p ∈ G.pr, p.2 ≠ a
def postS (G : Gh) (W : WX) (rm : Bool) (H : Hp) (r : Res Flow) (E : Ends) : Prop := match r with
  | .ok .nx ρ => ∀ σ' H', Stable H H' → StOk G σ' H' ρ → E.nx σ' H'
  | .ok (.ret d) ρ => ∀ v σ' H', Stable H H' → StOk G σ' H' ρ → RetOk rm G H' v d → E.rt v H'
  | .ok .brk ρ => ∀ σ' H', Stable H H' → StOk G σ' H' ρ → E.bk σ' H'
  | .ok .ct ρ => ∀ σ' H', Stable H H' → StOk G σ' H' ρ → E.ct σ' H'
  | .exc c ρ => ∀ σ' C H', G.m.mg c = some (.ref C) → Stable H H' → StOk G σ' H' ρ → W (.ref C) none σ' H'
  | .stuck => False
def sT (G : Gh) (W : WX) (rm : Bool) (f : MS) : TS := fun E σ H => ∃ ρ, StOk G σ H ρ ∧ postS G W rm H (f ρ) E
def DS (X : Cx) (G : Gh) (W : WX) (rm : Bool) (st : Stmt) (f : MS) : Prop := PS X st (sT G W rm f)
def DSs (X : Cx) (G : Gh) (W : WX) (rm : Bool) (st : List Stmt) (f : MS) : Prop := PSs X st (sT G W rm f)
section
variable {G : Gh} {W : WX} {rm : Bool} {σ : L2.St} {H H1 : Hp} {α : Type} {E : Ends}
theorem postS.from {r : Res Flow} (s : Stable H H1) (h : postS G W rm H r E) : postS G W rm H1 r E := by
  cases r with
  | ok f ρ =>
    cases f with
    | nx => exact fun σ' H' s' k => h σ' H' (s.trans s') k
    | ret d => exact fun v σ' H' s' k => h v σ' H' (s.trans s') k
    | brk => exact fun σ' H' s' k => h σ' H' (s.trans s') k
    | ct => exact fun σ' H' s' k => h σ' H' (s.trans s') k
  | exc c ρ => exact fun σ' C H' e s' k => h σ' C H' e (s.trans s') k
  | stuck => exact h
theorem postS.bind {a : M α} {k : α → MS} {ρ : Env} (h : postS G W rm H (bindM a k ρ) E) : postG G W σ H (a ρ) (fun x ρ1 H1 => postS G W rm H1 (k x ρ1) E) := by
  unfold bindM at h
  cases e : a ρ with
  | ok x ρ1 =>
    rw [e] at h
    exact fun H1 s1 _ => postS.from s1 h
  | exc c ρ1 => rw [e] at h; exact fun C H' e s' k => h σ C H' e s' k
  | stuck => rw [e] at h; exact h
end
def seqM (a b : MS) : MS := fun ρ => match a ρ with
  | .ok .nx ρ' => b ρ'
  | r => r
def skipM : MS := fun ρ => .ok .nx ρ
def setM (i : Nat) (f : M D) : MS := bindM f fun d ρ => .ok .nx (ρ.set i (.d d))
def setOM (i : Nat) (f : M (List D)) : MS := bindM f fun ds ρ => .ok .nx (ρ.set i (.own ds))
def dropM (f : M D) : MS := bindM f fun _ ρ => .ok .nx ρ
def retM (f : M D) : MS := bindM f fun d ρ => .ok (.ret d) ρ
def retOM (f : M (List D)) : MS := bindM f fun ds ρ => .ok (.ret (.lst ds)) ρ
def ifM (c : M Bool) (a b : MS) : MS := bindM c fun k => match k with
  | true => a
  | false => b
section
variable {X : Cx} {G : Gh} {W : WX} {rm : Bool} {e : Expr} {st : Stmt} {rest : List Stmt} {pos : Pos}
theorem dss_nil : DSs X G W rm [] skipM := pss_imp pss_nil fun E σ H ⟨ρ, k, q⟩ => q σ H Stable.rfl k
theorem dss_cons {f g : MS} (h1 : DS X G W rm st f) (h2 : DSs X G W rm rest g) : DSs X G W rm (st :: rest) (seqM f g) := pss_imp (pss_cons h1 h2) fun E σ H ⟨ρ, k, q⟩ => by
  refine ⟨ρ, k, ?_⟩
  unfold seqM at q
  cases e : f ρ with
  | ok fl ρ1 =>
    rw [e] at q
    cases fl with
    | nx => exact fun σ' H' s' k' => ⟨ρ1, k', postS.from s' q⟩
    | ret d => exact q
    | brk => exact q
    | ct => exact q
  | exc c ρ1 => rw [e] at q; exact q
  | stuck => rw [e] at q; exact q
theorem dss_one {f : MS} (h1 : DS X G W rm st f) : DSs X G W rm [st] f := pss_imp (pss_one h1) fun E σ H h => h
theorem ds_pass : DS X G W rm (.Pass pos) skipM := ps_imp ps_pass fun E σ H ⟨ρ, k, q⟩ => q σ H Stable.rfl k
theorem ds_break : DS X G W rm (.Break pos) (fun ρ => .ok .brk ρ) := ps_imp ps_break fun E σ H ⟨ρ, k, q⟩ => q σ H Stable.rfl k
theorem ds_continue : DS X G W rm (.Continue pos) (fun ρ => .ok .ct ρ) := ps_imp ps_continue fun E σ H ⟨ρ, k, q⟩ => q σ H Stable.rfl k
theorem ds_set (i : Nat) {x : Str} {f : M D} {pos' : Pos} (hp : pfree G i) (hN : X.N.Nodup) (hi : X.N[i]? = some x) (hx : Loc X.env.scope x) (he : DE X G W e f) (hs : swapsWith e (some (.Name x pos')) pos.line X.env = pure false := by rfl) (hf : X.fn x = true ∨ X.env.scope.names.lookup x = some .local := by first | exact .inl rfl | exact .inr rfl | assumption) :
    DS X G W rm (.Assign [.Name x pos'] e pos) (setM i f) := ps_imp (ps_set hN hi hx he hs hf) fun E σ H ⟨ρ, k, q⟩ => ⟨ρ, k, q.bind.mono fun d ρ1 H1 _ s1 k1 q1 v r => q1 _ H1 Stable.rfl (k1.setD hp r)⟩
theorem ds_setO (i : Nat) {x : Str} {f : M (List D)} {pos' : Pos} (hp : pfree G i) (hN : X.N.Nodup) (hi : X.N[i]? = some x) (hx : Loc X.env.scope x) (he : DO X G W e f) (hs : swapsWith e (some (.Name x pos')) pos.line X.env = pure false := by rfl) (hf : X.fn x = true ∨ X.env.scope.names.lookup x = some .local := by first | exact .inl rfl | exact .inr rfl | assumption) :
    DS X G W rm (.Assign [.Name x pos'] e pos) (setOM i f) := ps_imp (ps_set hN hi hx he hs hf) fun E σ H ⟨ρ, k, q⟩ => ⟨ρ, k, q.bind.mono fun ds ρ1 H1 _ s1 k1 q1 a vs ha r f => q1 _ H1 Stable.rfl (k1.setO hp ha r f)⟩
theorem ds_expr {f : M D} (he : DE X G W e f) (hs : swapsWith e none pos.line X.env = pure false := by rfl) : DS X G W rm (.Expr e pos) (dropM f) :=
  ps_imp (ps_expr he hs) fun E σ H ⟨ρ, k, q⟩ => ⟨ρ, k, q.bind.mono fun d ρ1 H1 _ s1 k1 q1 v r => q1 _ H1 Stable.rfl k1⟩
theorem ds_ret {f : M D} (he : DE X G W e f) : DS X G W false (.Return (some e) pos) (retM f) :=
  ps_imp (ps_ret he) fun E σ H ⟨ρ, k, q⟩ => ⟨ρ, k, q.bind.mono fun d ρ1 H1 _ s1 k1 q1 v r => q1 v σ H1 Stable.rfl k1 r⟩
theorem ds_retO {f : M (List D)} (he : DO X G W e f) : DS X G W true (.Return (some e) pos) (retOM f) :=
  ps_imp (ps_ret he) fun E σ H ⟨ρ, k, q⟩ => ⟨ρ, k, q.bind.mono fun ds ρ1 H1 _ s1 k1 q1 a vs ha r f => q1 _ σ H1 Stable.rfl k1 ⟨a, vs, ds, rfl, rfl, ha, r, f.1, f.2.1⟩⟩
theorem ds_retN : DS X G W false (.Return none pos) (retM (pureM .non)) := ps_imp ps_retN fun E σ H ⟨ρ, k, q⟩ => q _ σ H Stable.rfl k .non
theorem ds_if {c : Expr} {a b : List Stmt} {t : M Bool} {f g : MS} (hc : DT X G W c t) (ha : DSs X G W rm a f) (hb : DSs X G W rm b g) : DS X G W rm (.If c a b pos) (ifM t f g) :=
  ps_imp (ps_if hc ha hb) fun E σ H ⟨ρ, k, q⟩ => ⟨ρ, k, q.bind.mono fun c ρ1 H1 _ s1 k1 q1 => by
    cases c with
    | true => rw [if_pos rfl]; exact ⟨ρ1, k1, q1⟩
    | false => rw [if_neg (by decide)]; exact ⟨ρ1, k1, q1⟩⟩

/-! ### own lists changed -/
def MtO (m : Md) (r : V → List V → Hp → VK → Prop) (g : List D → List D → Option (D × List D)) : Prop :=
  ∀ (a : Addr) (vs args : List V) (xs ds : List D) (d : D) (ys : List D) (H : Hp) (Q : VK), H a = some (.lst vs) → RepL m H vs xs → RepL m H args ds → g xs ds = some (d, ys) →
    (∀ v ws, RepL m H ws ys → Rep m H v d → Q v (upd H a (.lst ws))) → r (.ref a) args H Q
def mtO (i : Nat) (g : List D → List D → Option (D × List D)) (f : M (List D)) : M D := bindM (getO i) fun _ => bindM f fun ds => bindM (getO i) fun xs => bindM (liftM (g xs ds)) fun z => bindM (putO i z.2) fun _ => pureM z.1
theorem mtO_fin {ρ : Env} {σ : L2.St} {H : Hp} {i : Nat} {g : List D → List D → Option (D × List D)} {r : V → List V → Hp → VK → Prop} {a : Addr} {args : List V} {ds : List D} {Q : VK} (hr : MtO G.m r g) (k : StOk G σ H ρ) (h1 : σ[i]? = some (some (.ref a))) (ra : RepL G.m H args ds)
    (q : postG G W σ H ((bindM (getO i) fun xs => bindM (liftM (g xs ds)) fun z => bindM (putO i z.2) fun _ => pureM z.1) ρ) fun d _ H' => ∀ v, Rep G.m H' v d → Q v H') : r (.ref a) args H Q := by
  obtain ⟨xs, e1, q⟩ := getO_run q
  obtain ⟨a', vs, g1, g2, g3, _⟩ := k.own i xs e1
  rw [h1] at g1; injection g1 with g1; injection g1 with g1; injection g1 with g1
  subst g1
  obtain ⟨⟨d, ys⟩, e, q⟩ := q.bind.lift k
  refine hr a vs args xs ds d ys H Q g2 g3 ra e fun v ws rw' rv => ?_
  have st : Stable H (upd H a (.lst ws)) := Stable.upd g2 trivial
  exact q H Stable.rfl k _ st (k.wrote e1 h1 rw') v (rv.st st)
theorem de_bmO (i : Nat) {x name id : Str} {T idS : String} {r : V → List V → Hp → VK → Prop} {g : List D → List D → Option (D × List D)} {f : M (List D)} {es : List Expr} {pos' apos : Pos} (slot : Slot "list" name idS) (hty : typeOf (.builtin idS) = pure (.type "method_descriptor")) (hm : MtR X idS r) (hr : MtO G.m r g) (ha : DA X G W (e :: es) f)
    (hN : X.N[i]? = some x) (hv : Vis X.env.scope x := by first | exact .inl rfl | exact .inr (.inl rfl) | exact .inr (.inr rfl)) (hd : (x == ("__debug__" : Str)) = false := by decide) (hcd : (x == ("__classdict__" : Str)) = false := by decide)
    (hbase : attributeBase (.Name x pos') name X.env (eval (.Name x pos') X.env) = eval (.Name x pos') X.env := by rfl)
    (hfew : ((backTo pos (starEach (e :: es) X.env)).all (fun x => !x.1) && (backToKw pos (keywordEach [] X.env)).all (fun x => x.1.isSome)
      && decide ((e :: es).length + ([] : List Keyword).length + (if ([] : List Keyword).isEmpty then 0 else 1) < 30)) = true := by rfl)
    (hline : (apos.endLine == pos.line) = true := by rfl) (hs : starEach (e :: es) X.env = (false, eval e X.env) :: starEach es X.env := by rfl) (hplain : (backTo pos (starEach es X.env)).any (·.1) = false := by rfl) :
    DE X G W (.Call (.Attribute (.Name x pos') name apos) (e :: es) [] pos) (mtO i g f) :=
  pe_imp (pe_bm PySem.F.plainAttrs_list slot hty hm (pe_var (i := i) hN hv hd hcd) ha hbase hfew hline hs hplain) fun σ H Q ⟨ρ, k, q⟩ => by
    obtain ⟨xs0, e0, q⟩ := getO_run q
    obtain ⟨a, vs0, h1, h2, _⟩ := k.own i xs0 e0
    exact ⟨_, h1, .inl ⟨rfl, _, SqL.of h2⟩, ρ, k, q.bind.mono fun ds ρ1 H1 _ s1 k1 q1 vs rs => mtO_fin hr k1 h1 rs q1⟩
theorem de_bmO0 (i : Nat) {x name : Str} {idS : String} {r : V → List V → Hp → VK → Prop} {g : List D → List D → Option (D × List D)} {pos' apos : Pos} (slot : Slot "list" name idS) (hty : typeOf (.builtin idS) = pure (.type "method_descriptor")) (hm : MtR X idS r) (hr : MtO G.m r g)
    (hN : X.N[i]? = some x) (hv : Vis X.env.scope x := by first | exact .inl rfl | exact .inr (.inl rfl) | exact .inr (.inr rfl)) (hd : (x == ("__debug__" : Str)) = false := by decide) (hcd : (x == ("__classdict__" : Str)) = false := by decide)
    (hbase : attributeBase (.Name x pos') name X.env (eval (.Name x pos') X.env) = eval (.Name x pos') X.env := by rfl) (hline : (apos.endLine == pos.line) = true := by rfl) :
    DE X G W (.Call (.Attribute (.Name x pos') name apos) [] [] pos) (mtO i g (pureM [])) :=
  pe_imp (pe_bm0 PySem.F.plainAttrs_list slot hty hm (pe_var (i := i) hN hv hd hcd) hbase hline) fun σ H Q ⟨ρ, k, q⟩ => by
    obtain ⟨xs0, e0, q⟩ := getO_run q
    obtain ⟨a, vs0, h1, h2, _⟩ := k.own i xs0 e0
    exact ⟨_, h1, .inl ⟨rfl, _, SqL.of h2⟩, mtO_fin hr k h1 .nil (q.bind H Stable.rfl k)⟩
/-- o[k] = e, o an own list -/
def ixSet (xs : List D) (k : D) (d : D) : Option (List D) := match k with
  | .int z => (ixN xs.length z).map fun j => xs.set j d
  | _ => none
def setIM (i : Nat) (fk fe : M D) : MS := bindM fe fun d => bindM (getO i) fun _ => bindM fk fun z => bindM (getO i) fun xs => bindM (liftM (ixSet xs z d)) fun ys => bindM (putO i ys) fun _ => skipM
theorem ds_setI (i : Nat) {x : Str} {k : Expr} {fk fe : M D} {pos' pos2 : Pos} (he : DE X G W e fe) (hk : DE X G W k fk) (hN : X.N[i]? = some x) (hv : Vis X.env.scope x := by first | exact .inl rfl | exact .inr (.inl rfl) | exact .inr (.inr rfl)) (hd : (x == ("__debug__" : Str)) = false := by decide) (hcd : (x == ("__classdict__" : Str)) = false := by decide)
    (ha : ∀ v, assign (.Subscript (.Name x pos') k pos2) X.env v = (do
      let ov ← holding [v] (eval (.Name x pos') X.env)
      let iv ← holding [v, ov] (eval k X.env)
      standAt pos2
      holding [v, ov, iv] (setItem ov iv v)
      release [v, ov, iv] []) := by intro _; rfl)
    (hs : swapsWithSole [.Subscript (.Name x pos') k pos2] e pos.line X.env = pure false := by rfl) (hw : swappedStores [.Subscript (.Name x pos') k pos2] e X.env = pure none := by rfl)
    (h1 : (assignEach [.Subscript (.Name x pos') k pos2] X.env).map (·.2) = [assign (.Subscript (.Name x pos') k pos2) X.env] := by rfl) :
    DS X G W rm (.Assign [.Subscript (.Name x pos') k pos2] e pos) (setIM i fk fe) :=
  ps_imp (ps_asg he (pg_sub (pe_var (i := i) hN hv hd hcd) hk set_list ha) hs hw h1) fun E σ H ⟨ρ, st, q⟩ => ⟨ρ, st, q.bind.mono fun d ρ1 H1 _ s1 k1 q1 v rv => by
    have q1 := q1.bind (σ := σ)
    cases e0 : getO i ρ1 with
    | stuck => rw [e0] at q1; exact q1.elim
    | exc c ρ' =>
      unfold getO at e0
      split at e0 <;> cases e0
    | ok xs0 ρ' =>
      have eq : ρ' = ρ1 ∧ ρ1[i]? = some (.own xs0) := by
        unfold getO at e0
        split at e0
        · rename_i ys h; cases e0; exact ⟨rfl, h⟩
        · cases e0
      obtain ⟨rfl, e0'⟩ := eq
      rw [e0] at q1
      have q1 := q1 H1 Stable.rfl k1
      obtain ⟨a, vs0, g1, g2, _⟩ := k1.own i xs0 e0'
      refine ⟨_, g1, ρ', k1, q1.bind.mono fun z ρ2 H2 _ s2 k2 q2 zv rz => ?_⟩
      have q2 := q2.bind (σ := σ)
      cases e2 : getO i ρ2 with
      | stuck => rw [e2] at q2; exact q2.elim
      | exc c ρ' =>
        unfold getO at e2
        split at e2 <;> cases e2
      | ok xs ρ'' =>
        have eq : ρ'' = ρ2 ∧ ρ2[i]? = some (.own xs) := by
          unfold getO at e2
          split at e2
          · rename_i ys h; cases e2; exact ⟨rfl, h⟩
          · cases e2
        obtain ⟨rfl, e2'⟩ := eq
        rw [e2] at q2
        have q2 := q2 H2 Stable.rfl k2
        obtain ⟨a', vs, w1, w2, w3, _⟩ := k2.own i xs e2'
        rw [g1] at w1; injection w1 with w1; injection w1 with w1; injection w1 with w1
        subst w1
        obtain ⟨ys, e3, q3⟩ := (q2.bind (σ := σ)).lift k2
        cases z with
        | int iz =>
          cases rz
          have e3 : (ixN xs.length iz).map (fun j => xs.set j d) = some ys := e3
          cases e4 : ixN xs.length iz with
          | none => rw [e4] at e3; cases e3
          | some j =>
            rw [e4] at e3
            have e3 : ys = xs.set j d := by cases e3; rfl
            subst e3
            refine ⟨a, vs, iz, j, rfl, rfl, w2, by rw [w3.len]; exact e4, ?_⟩
            have st2 : Stable H2 (upd H2 a (.lst (vs.set j v))) := Stable.upd w2 trivial
            exact q3 H2 Stable.rfl k2 _ _ st2 (k2.wrote e2' g1 ((w3.set (rv.st s2) j)))
        | _ => cases e3⟩
end
end DL
end
section
namespace DL
open PySem PySem.Spec L2
open PyProof.Rows hiding St

/-! ### defs -/
inductive FRes where
  | ok (d : D) (os : List (List D)) | exc (c : Str) (os : List (List D)) | stuck
abbrev Fn := List Sl → FRes
def isOwn : Sl → Bool
  | .own _ => true
  | _ => false
/-- the by-reference parameters' new contents -/
def replOwn : Env → List (List D) → Env
  | [], _ => []
  | .own _ :: ρ, o :: os => .own o :: replOwn ρ os
  | .own x :: ρ, [] => .own x :: replOwn ρ []
  | s :: ρ, os => s :: replOwn ρ os
def collect : Env → Env → List (List D)
  | .own _ :: a, .own x :: b => x :: collect a b
  | _ :: a, _ :: b => collect a b
  | _, _ => []
structure ArgOk (m : Md) (ex : Option (Addr × Str)) (vs : List V) (H : Hp) (ρ : Env) : Prop where
  len : vs.length = ρ.length
  dat : ∀ (i : Nat) (x : D), ρ[i]? = some (.d x) → ∃ v, vs[i]? = some v ∧ Rep m H v x
  own : ∀ (i : Nat) (xs : List D), ρ[i]? = some (.own xs) → ∃ a ws, vs[i]? = some (.ref a) ∧ H a = some (.lst ws) ∧ RepL m H ws xs
  sep : ∀ (i j : Nat) (xs ys : List D) (a : Addr), i ≠ j → ρ[i]? = some (.own xs) → ρ[j]? = some (.own ys) → vs[i]? = some (.ref a) → vs[j]? ≠ some (.ref a)
  exn : ∀ (i : Nat) (c : Str), ρ[i]? = some (.exn c) → ∃ a, ex = some (a, c) ∧ vs[i]? = some (.ref a)
def Keeps (vs : List V) (ρ : Env) (H H' : Hp) : Prop := ∀ a o, H a = some o → (∀ (i : Nat) (xs : List D), ρ[i]? = some (.own xs) → vs[i]? ≠ some (.ref a)) → H' a = some o
def RetF (rm : Bool) (m : Md) (H H' : Hp) (v : V) (d : D) : Prop := match rm with
  | false => Rep m H' v d
  | true => ∃ a ws ds, v = .ref a ∧ d = .lst ds ∧ H' a = some (.lst ws) ∧ RepL m H' ws ds ∧ H a = none
def postF (m : Md) (ex : Option (Addr × Str)) (rm : Bool) (vs : List V) (ρ : Env) (H : Hp) (r : FRes) (Q : VK) (E : XK) : Prop := match r with
  | .ok d os => ∀ v H', Keeps vs ρ H H' → Stable H H' → ArgOk m ex vs H' (replOwn ρ os) → RetF rm m H H' v d → Q v H'
  | .exc c os => ∀ C H', m.mg c = some (.ref C) → Keeps vs ρ H H' → Stable H H' → ArgOk m ex vs H' (replOwn ρ os) → E (.ref C) none H'
  | .stuck => False
/-- the promise of a def: it computes f. md: which parameters are by reference; rm: a list of its own is handed back -/
def spD (m : Md) (ex : Option (Addr × Str)) (md : List Bool) (rm : Bool) (f : Fn) : Sp := fun vs H Q E => ∃ ρ, ρ.map isOwn = md ∧ ArgOk m ex vs H ρ ∧ postF m ex rm vs ρ H (f ρ) Q E

/-! ### a body -/
def prOf : List V → Env → Nat → List (Nat × Addr)
  | .ref a :: vs, .own _ :: ρ, i => (i, a) :: prOf vs ρ (i + 1)
  | _ :: vs, _ :: ρ, i => prOf vs ρ (i + 1)
  | _, _, _ => []
theorem mem_prOf : ∀ {vs : List V} {ρ : Env} {i : Nat} {p : Nat × Addr}, p ∈ prOf vs ρ i → ∃ j, p.1 = i + j ∧ vs[j]? = some (.ref p.2) ∧ ∃ xs, ρ[j]? = some (.own xs)
  | [], ρ, i, p, h => by cases ρ <;> simp [prOf] at h
  | v :: vs, [], i, p, h => by cases v <;> simp [prOf] at h
  | v :: vs, s :: ρ, i, p, h => by
    have tl : p ∈ prOf vs ρ (i + 1) → ∃ j, p.1 = i + j ∧ (v :: vs)[j]? = some (.ref p.2) ∧ ∃ xs, (s :: ρ)[j]? = some (.own xs) := fun h => by
      obtain ⟨j, e, h1, h2⟩ := mem_prOf h
      exact ⟨j + 1, by omega, by simpa using h1, by simpa using h2⟩
    cases v with
    | ref a =>
      cases s with
      | own xs =>
        simp only [prOf, List.mem_cons] at h
        rcases h with h | h
        · subst h; exact ⟨0, rfl, rfl, xs, rfl⟩
        · exact tl h
      | _ => exact tl (by simpa [prOf] using h)
    | _ => exact tl (by cases s <;> simpa [prOf] using h)
theorem prOf_mem : ∀ {vs : List V} {ρ : Env} {i j : Nat} {a : Addr} {xs : List D}, vs[j]? = some (.ref a) → ρ[j]? = some (.own xs) → (i + j, a) ∈ prOf vs ρ i
  | [], ρ, i, j, a, xs, h, _ => by simp at h
  | v :: vs, [], i, j, a, xs, _, h => by simp at h
  | v :: vs, s :: ρ, i, 0, a, xs, h1, h2 => by
    simp at h1 h2
    subst h1; subst h2
    simp [prOf]
  | v :: vs, s :: ρ, i, j + 1, a, xs, h1, h2 => by
    have q := prOf_mem (i := i + 1) (j := j) (by simpa using h1) (by simpa using h2)
    rw [show i + 1 + j = i + (j + 1) by omega] at q
    cases v with
    | ref b =>
      cases s with
      | own ys => simp only [prOf, List.mem_cons]; exact .inr q
      | _ => simpa [prOf] using q
    | _ => cases s <;> simpa [prOf] using q
def ghOf (m : Md) (ex : Option (Addr × Str)) (vs : List V) (ρ : Env) (H : Hp) : Gh := ⟨m, H, prOf vs ρ 0, ex⟩
theorem pfree_of {m : Md} {ex : Option (Addr × Str)} {vs : List V} {ρ : Env} {H : Hp} {md : List Bool} (h : ρ.map isOwn = md) (i : Nat) (hi : md.getD i false = false) : pfree (ghOf m ex vs ρ H) i := fun p hp e => by
  obtain ⟨j, e1, _, xs, h2⟩ := mem_prOf hp
  have e2 : j = i := by omega
  subst e2
  rw [← h] at hi
  rw [List.getD_eq_getElem?_getD, List.getElem?_map, h2] at hi
  simp [isOwn] at hi
theorem start_ok {m : Md} {ex : Option (Addr × Str)} {vs : List V} {ρ : Env} {H : Hp} {n : Nat} (a : ArgOk m ex vs H ρ) : StOk (ghOf m ex vs ρ H) (vs.map some ++ List.replicate n none) H (ρ ++ List.replicate n .no) := by
  have low : ∀ (i : Nat) (s : Sl), s ≠ .no → (ρ ++ List.replicate n Sl.no)[i]? = some s → ρ[i]? = some s := fun i s hs h => by
    by_cases hi : i < ρ.length
    · rw [List.getElem?_append_left hi] at h; exact h
    · rw [List.getElem?_append_right (by omega), List.getElem?_replicate] at h
      split at h
      · cases h; exact absurd rfl hs
      · cases h
  have lv : ∀ (i : Nat) (v : V), vs[i]? = some v → (vs.map some ++ List.replicate n none)[i]? = some (some v) := fun i v h => by
    have hi : i < vs.length := (List.getElem?_eq_some_iff.mp h).1
    rw [List.getElem?_append_left (by simpa using hi), List.getElem?_map, h]; rfl
  have vl : ∀ (i : Nat) (v : V), (vs.map some ++ List.replicate n none)[i]? = some (some v) → vs[i]? = some v := fun i v h => by
    by_cases hi : i < vs.length
    · rw [List.getElem?_append_left (by simpa using hi), List.getElem?_map] at h
      cases e : vs[i]? with
      | none => rw [e] at h; cases h
      | some w => rw [e] at h; simp at h; rw [h]
    · rw [List.getElem?_append_right (by simpa using hi), List.getElem?_replicate] at h
      split at h <;> cases h
  refine ⟨by simp [a.len], fun i x h => ?_, fun i xs h => ?_, fun i j xs ys b ne h1 h2 h3 h4 => ?_, fun p hp => ?_, fun b o h _ => h, fun i c h => ?_⟩
  · obtain ⟨v, h1, h2⟩ := a.dat i x (low i _ (fun z => by cases z) h)
    exact ⟨v, lv i v h1, h2⟩
  · have h' := low i _ (fun z => by cases z) h
    obtain ⟨b, ws, h1, h2, h3⟩ := a.own i xs h'
    refine ⟨b, ws, lv i _ h1, h2, h3, fun hno => ?_⟩
    exact absurd rfl (hno (i, b) (show (i, b) ∈ prOf vs ρ 0 by simpa using prOf_mem (i := 0) h1 h'))
  · exact a.sep i j xs ys b ne (low i _ (fun z => by cases z) h1) (low j _ (fun z => by cases z) h2) (vl i _ h3) (vl j _ h4)
  · obtain ⟨j, e, h1, xs, h2⟩ := mem_prOf hp
    have e : p.1 = j := by omega
    rw [e]
    refine ⟨lv j _ h1, xs, ?_⟩
    have hj : j < ρ.length := (List.getElem?_eq_some_iff.mp h2).1
    rw [List.getElem?_append_left hj]; exact h2
  · obtain ⟨b, h1, h2⟩ := a.exn i c (low i _ (fun z => by cases z) h)
    exact ⟨b, h1, lv i _ h2⟩
theorem replOwn_len : ∀ (ρ : Env) (os : List (List D)), (replOwn ρ os).length = ρ.length
  | [], _ => rfl
  | s :: ρ, os => by
    cases s with
    | own x => cases os <;> simp [replOwn, replOwn_len]
    | _ => simp [replOwn, replOwn_len]
/-- what stands at i behind collect and replOwn -/
theorem replOwn_collect : ∀ (ρ ρ' : Env) (i : Nat), (∀ j, isOwn (ρ.getD j .no) = true → isOwn (ρ'.getD j .no) = true) →
    (∀ xs, ρ[i]? = some (.own xs) → (replOwn ρ (collect ρ ρ'))[i]? = ρ'[i]?) ∧ (∀ s, isOwn s = false → ρ[i]? = some s → (replOwn ρ (collect ρ ρ'))[i]? = some s)
  | [], ρ', i, h => ⟨fun xs e => by simp at e, fun s _ e => by simp at e⟩
  | s :: ρ, [], i, h => by
    have none : ∀ (l : Env), (∀ j, isOwn (l.getD j .no) = true → isOwn (([] : Env).getD j .no) = true) → ∀ t ∈ l, isOwn t = false := fun l hl t ht => by
      obtain ⟨j, hj, e⟩ := List.mem_iff_getElem.mp ht
      cases q : isOwn t with
      | false => rfl
      | true =>
        have z := hl j (by rw [List.getD_eq_getElem?_getD, List.getElem?_eq_getElem hj, e]; exact q)
        simp [isOwn] at z
    have all := none (s :: ρ) h
    have same : ∀ (l : Env), (∀ t ∈ l, isOwn t = false) → replOwn l [] = l := by
      intro l
      induction l with
      | nil => intro _; rfl
      | cons t l ih =>
        intro hl
        have ht := hl t List.mem_cons_self
        have := ih fun u hu => hl u (List.mem_cons_of_mem _ hu)
        cases t <;> first | (simp [replOwn, this]; done) | (simp [isOwn] at ht)
    have ce : collect (s :: ρ) [] = [] := by cases s <;> rfl
    rw [ce, same _ all]
    refine ⟨fun xs e => ?_, fun t _ e => e⟩
    have := all _ (List.mem_of_getElem? e)
    simp [isOwn] at this
  | s :: ρ, s' :: ρ', i, h => by
    have ht : ∀ j, isOwn (ρ.getD j .no) = true → isOwn (ρ'.getD j .no) = true := fun j hj => by simpa using h (j + 1) (by simpa using hj)
    have h0 : isOwn s = true → isOwn s' = true := by simpa using h 0
    have ih := replOwn_collect ρ ρ'
    cases s with
    | own x =>
      cases s' with
      | own y =>
        have e : replOwn (.own x :: ρ) (collect (.own x :: ρ) (.own y :: ρ')) = .own y :: replOwn ρ (collect ρ ρ') := rfl
        rw [e]
        cases i with
        | zero => exact ⟨fun xs _ => rfl, fun t ht e => by simp at e; subst e; simp [isOwn] at ht⟩
        | succ i => simpa using ih i ht
      | _ => simp [isOwn] at h0
    | no =>
      have e : replOwn (.no :: ρ) (collect (.no :: ρ) (s' :: ρ')) = .no :: replOwn ρ (collect ρ ρ') := by cases s' <;> rfl
      rw [e]
      cases i with
      | zero => exact ⟨fun xs e => by simp at e, fun t _ e => by simpa using e⟩
      | succ i => simpa using ih i ht
    | d x =>
      have e : replOwn (.d x :: ρ) (collect (.d x :: ρ) (s' :: ρ')) = .d x :: replOwn ρ (collect ρ ρ') := by cases s' <;> rfl
      rw [e]
      cases i with
      | zero => exact ⟨fun xs e => by simp at e, fun t _ e => by simpa using e⟩
      | succ i => simpa using ih i ht
    | exn x =>
      have e : replOwn (.exn x :: ρ) (collect (.exn x :: ρ) (s' :: ρ')) = .exn x :: replOwn ρ (collect ρ ρ') := by cases s' <;> rfl
      rw [e]
      cases i with
      | zero => exact ⟨fun xs e => by simp at e, fun t _ e => by simpa using e⟩
      | succ i => simpa using ih i ht
/-- behind the body: the parameters -/
theorem end_ok {m : Md} {ex : Option (Addr × Str)} {vs : List V} {ρ ρ' : Env} {H H' : Hp} {σ' : L2.St} (a : ArgOk m ex vs H ρ) (st : Stable H H') (k : StOk (ghOf m ex vs ρ H) σ' H' ρ') :
    Keeps vs ρ H H' ∧ ArgOk m ex vs H' (replOwn ρ (collect ρ ρ')) := by
  have at_ : ∀ (i : Nat) (xs : List D), ρ[i]? = some (.own xs) → ∃ b ys ws, vs[i]? = some (.ref b) ∧ σ'[i]? = some (some (.ref b)) ∧ ρ'[i]? = some (.own ys) ∧ H' b = some (.lst ws) ∧ RepL m H' ws ys := fun i xs h => by
    obtain ⟨b, ws0, h1, h2, h3⟩ := a.own i xs h
    have hp : (i, b) ∈ (ghOf m ex vs ρ H).pr := show (i, b) ∈ prOf vs ρ 0 by simpa using prOf_mem (i := 0) h1 h
    obtain ⟨q1, ys, q2⟩ := k.prot _ hp
    obtain ⟨b', ws, q3, q4, q5, _⟩ := k.own i ys q2
    have q1 : σ'[i]? = some (some (.ref b)) := q1
    rw [q1] at q3; injection q3 with q3; injection q3 with q3; injection q3 with q3
    subst q3
    exact ⟨b, ys, ws, h1, q1, q2, q4, q5⟩
  refine ⟨fun b o h1 h2 => k.keep b o h1 fun p hp e => ?_, ?_⟩
  · obtain ⟨j, e1, e2, xs, e3⟩ := mem_prOf hp
    rw [e] at e2
    exact h2 j xs e3 e2
  · have mono : ∀ j, isOwn (ρ.getD j .no) = true → isOwn (ρ'.getD j .no) = true := fun j hj => by
      rw [List.getD_eq_getElem?_getD] at hj ⊢
      cases e : ρ[j]? with
      | none => rw [e] at hj; simp [isOwn] at hj
      | some s =>
        rw [e] at hj
        cases s with
        | own xs =>
          obtain ⟨b, ys, ws, _, _, h3, _⟩ := at_ j xs e
          rw [h3]; rfl
        | _ => simp [isOwn] at hj
    have rc := fun i => replOwn_collect ρ ρ' i mono
    have inv : ∀ (i : Nat) (s : Sl), (replOwn ρ (collect ρ ρ'))[i]? = some s → (isOwn s = false ∧ ρ[i]? = some s) ∨ ∃ xs ys, s = .own ys ∧ ρ[i]? = some (.own xs) ∧ ρ'[i]? = some (.own ys) := fun i s h => by
      have hi : i < ρ.length := by rw [← replOwn_len ρ (collect ρ ρ')]; exact (List.getElem?_eq_some_iff.mp h).1
      obtain ⟨t, ht⟩ : ∃ t, ρ[i]? = some t := ⟨_, List.getElem?_eq_getElem hi⟩
      cases q : isOwn t with
      | false =>
        have := (rc i).2 t q ht
        rw [this] at h; cases h
        exact .inl ⟨q, ht⟩
      | true =>
        cases t with
        | own xs =>
          obtain ⟨b, ys, ws, h1, h2, h3, _⟩ := at_ i xs ht
          rw [(rc i).1 xs ht, h3] at h; cases h
          exact .inr ⟨xs, ys, rfl, ht, h3⟩
        | _ => simp [isOwn] at q
    refine ⟨by rw [replOwn_len]; exact a.len, fun i x h => ?_, fun i xs h => ?_, fun i j xs ys b ne h1 h2 => ?_, fun i c h => ?_⟩
    · rcases inv i _ h with ⟨_, h⟩ | ⟨_, _, e, _⟩
      · obtain ⟨v, h1, h2⟩ := a.dat i x h
        exact ⟨v, h1, h2.st st⟩
      · cases e
    · rcases inv i _ h with ⟨e, _⟩ | ⟨ys, zs, e, h1, h2⟩
      · simp [isOwn] at e
      · cases e
        obtain ⟨b, us, ws, g1, g2, g3, g4, g5⟩ := at_ i ys h1
        rw [h2] at g3; cases g3
        exact ⟨b, ws, g1, g4, g5⟩
    · rcases inv i _ h1 with ⟨e, _⟩ | ⟨us, zs, e, g1, g2⟩
      · simp [isOwn] at e
      rcases inv j _ h2 with ⟨e, _⟩ | ⟨us', zs', e', g1', g2'⟩
      · simp [isOwn] at e
      exact a.sep i j us us' b ne g1 g1'
    · rcases inv i _ h with ⟨_, h⟩ | ⟨_, _, e, _⟩
      · exact a.exn i c h
      · cases e
/-- the def's function: n slots in all -/
def fnM (rm : Bool) (n : Nat) (body : MS) : Fn := fun ρ => match body (ρ ++ List.replicate (n - ρ.length) .no) with
  | .ok .nx ρ' => if rm = true then .stuck else .ok .non (collect ρ ρ')
  | .ok (.ret d) ρ' => .ok d (collect ρ ρ')
  | .exc c ρ' => .exc c (collect ρ ρ')
  | _ => .stuck
theorem body_ok {m : Md} {ex : Option (Addr × Str)} {rm : Bool} {n : Nat} {body : MS} {vs : List V} {ρ : Env} {H : Hp} {Q : VK} {E : XK} {W : WX} (hW : ∀ cls d σ H, E cls d H → W cls d σ H) 
    (a : ArgOk m ex vs H ρ) (h : postF m ex rm vs ρ H (fnM rm n body ρ) Q E) :
    sT (ghOf m ex vs ρ H) W rm body { nx := fun _ H' => Q .non H', rt := Q } (vs.map some ++ List.replicate (n - vs.length) none) H := by
  refine ⟨ρ ++ List.replicate (n - ρ.length) .no, by rw [a.len]; exact start_ok a, ?_⟩
  unfold fnM at h
  cases e : body (ρ ++ List.replicate (n - ρ.length) .no) with
  | ok fl ρ' =>
    rw [e] at h
    cases fl with
    | nx =>
      intro σ' H' s k
      obtain ⟨k1, k2⟩ := end_ok a s k
      cases rm with
      | false => exact h .non H' k1 s k2 .non
      | true => exact h.elim
    | ret d =>
      intro v σ' H' s k r
      obtain ⟨k1, k2⟩ := end_ok a s k
      refine h v H' k1 s k2 ?_
      cases rm with
      | false => exact r
      | true =>
        obtain ⟨b, ws, ds, r1, r2, r3, r4, r5, r6⟩ := r
        exact ⟨b, ws, ds, r1, r2, r3, r4, r5⟩
    | brk => exact h.elim
    | ct => exact h.elim
  | exc c ρ' =>
    rw [e] at h
    intro σ' C H' e s k
    obtain ⟨k1, k2⟩ := end_ok a s k
    exact hW _ _ _ _ (h C H' e k1 s k2)
  | stuck => rw [e] at h; exact h.elim
/-- THE RULE for a def -/
theorem fn_ok {P : Program} {w : World} {K : PySem.W.Frag} {mg : Str → Option Value} {base : Heap} {k : Nat} {f : Addr} {fd : FuncData} {N ps : List Str} {x qual : Str} {params : Arguments} {body : List Stmt} {scope : Scope} {md : List Bool} {rm : Bool} {bm : MS}
    (F : FunD K x qual params body scope [] [] f fd) (S : FnScope N ps scope) (hmd : md.length = ps.length)
    (D : ∀ (cdv : Value) (A : Around) (outer : List PySem.Env) (s : Shared) (H : Hp) (E : XK) (H0 : Hp) (pr : List (Nat × Addr)), (∀ i, md.getD i false = false → pfree ⟨⟨K, mg⟩, H0, pr, none⟩ i) → Room k (A.deeper (envOfC qual scope s.heap.objs.size f cdv)) →
      Takes (cxOf (L2.CX P w) P w K mg base N qual scope f cdv A outer s H E) (fun cls d _ H => E cls d H) → DSs (cxOf (L2.CX P w) P w K mg base N qual scope f cdv A outer s H E) ⟨⟨K, mg⟩, H0, pr, none⟩ (fun cls d _ H => E cls d H) rm body bm) :
    FnOk P w K mg base (L2.CX P w) (k + 1) f fd ps (spD ⟨K, mg⟩ none md rm (fnM rm N.length bm)) := by
  refine F.ok S (fun vs H Q E h => ?_) (fun cdv A outer s H vs Q E hr h => ?_)
  · obtain ⟨ρ, h1, h2, _⟩ := h
    rw [h2.len, ← hmd, ← h1, List.length_map]
  · obtain ⟨ρ, h1, h2, h3⟩ := h
    exact ⟨_, D cdv A outer s H E H (prOf vs ρ 0) (fun i hi => pfree_of (m := ⟨K, mg⟩) (ex := none) (H := H) h1 i hi) hr (takes_of rfl rfl rfl rfl), body_ok (fun _ _ _ _ z => z) h2 h3⟩
/-- a def that is never called -/
theorem fn_stuck {P : Program} {w : World} {K : PySem.W.Frag} {mg : Str → Option Value} {base : Heap} {CX : CXT} {k : Nat} {f : Addr} {fd : FuncData} {ps : List Str} {m : Md} {ex : Option (Addr × Str)} {md : List Bool} {rm : Bool} : FnOk P w K mg base CX k f fd ps (spD m ex md rm fun _ => .stuck) :=
  ⟨fun vs H Q E ⟨_, _, _, h⟩ => h.elim, fun A outer s H args us vs Q E _ _ _ _ ⟨_, _, _, h⟩ => h.elim⟩

/-! ### calls of defs -/
inductive Ag where
  | d (x : D) | sl (i : Nat)
def toSl (ρ : Env) : Ag → Sl
  | .d x => .d x
  | .sl i => ρ.getD i .no
def slots : List Ag → List Nat
  | [] => []
  | .d _ :: r => slots r
  | .sl i :: r => i :: slots r
def putBack : List Ag → List (List D) → Env → Env
  | [], _, ρ => ρ
  | .d _ :: r, os, ρ => putBack r os ρ
  | .sl i :: r, os, ρ => match ρ.getD i .no, os with
    | .own _, o :: os' => putBack r os' (ρ.set i (.own o))
    | _, os => putBack r os ρ
inductive AgOk (m : Md) (σ : L2.St) (H : Hp) : List V → List Ag → Prop
  | nil : AgOk m σ H [] []
  | d {v : V} {vs : List V} {x : D} {ags : List Ag} : Rep m H v x → AgOk m σ H vs ags → AgOk m σ H (v :: vs) (.d x :: ags)
  | sl {v : V} {vs : List V} {i : Nat} {ags : List Ag} : σ[i]? = some (some v) → AgOk m σ H vs ags → AgOk m σ H (v :: vs) (.sl i :: ags)
theorem AgOk.st {m : Md} {σ : L2.St} {H H' : Hp} (s : Stable H H') : ∀ {vs : List V} {ags : List Ag}, AgOk m σ H vs ags → AgOk m σ H' vs ags
  | _, _, .nil => .nil
  | _, _, .d r k => .d (r.st s) (AgOk.st s k)
  | _, _, .sl r k => .sl r (AgOk.st s k)
theorem AgOk.len {m : Md} {σ : L2.St} {H : Hp} : ∀ {vs : List V} {ags : List Ag}, AgOk m σ H vs ags → vs.length = ags.length
  | _, _, .nil => rfl
  | _, _, .d _ k => by simp [AgOk.len k]
  | _, _, .sl _ k => by simp [AgOk.len k]
theorem AgOk.atD {m : Md} {σ : L2.St} {H : Hp} : ∀ {vs : List V} {ags : List Ag} {p : Nat} {x : D}, AgOk m σ H vs ags → ags[p]? = some (.d x) → ∃ v, vs[p]? = some v ∧ Rep m H v x
  | _, _, p, x, .nil, h => by simp at h
  | _, _, 0, x, .d r _, h => by simp at h; subst h; exact ⟨_, rfl, r⟩
  | _, _, p + 1, x, .d _ k, h => by obtain ⟨v, h1, h2⟩ := AgOk.atD (p := p) (x := x) k (by simpa using h); exact ⟨v, by simpa using h1, h2⟩
  | _, _, 0, x, .sl _ _, h => by simp at h
  | _, _, p + 1, x, .sl _ k, h => by obtain ⟨v, h1, h2⟩ := AgOk.atD (p := p) (x := x) k (by simpa using h); exact ⟨v, by simpa using h1, h2⟩
theorem AgOk.atS {m : Md} {σ : L2.St} {H : Hp} : ∀ {vs : List V} {ags : List Ag} {p i : Nat}, AgOk m σ H vs ags → ags[p]? = some (.sl i) → ∃ v, vs[p]? = some v ∧ σ[i]? = some (some v)
  | _, _, p, x, .nil, h => by simp at h
  | _, _, 0, x, .sl r _, h => by simp at h; subst h; exact ⟨_, rfl, r⟩
  | _, _, p + 1, x, .d _ k, h => by obtain ⟨v, h1, h2⟩ := AgOk.atS (p := p) (i := x) k (by simpa using h); exact ⟨v, by simpa using h1, h2⟩
  | _, _, 0, x, .d _ _, h => by simp at h
  | _, _, p + 1, x, .sl _ k, h => by obtain ⟨v, h1, h2⟩ := AgOk.atS (p := p) (i := x) k (by simpa using h); exact ⟨v, by simpa using h1, h2⟩
theorem slots_mem : ∀ {ags : List Ag} {p i : Nat}, ags[p]? = some (.sl i) → i ∈ slots ags
  | [], p, i, h => by simp at h
  | a :: r, 0, i, h => by simp at h; subst h; simp [slots]
  | a :: r, p + 1, i, h => by
    have := slots_mem (p := p) (i := i) (ags := r) (by simpa using h)
    cases a <;> simp [slots, this]
theorem slots_inj : ∀ {ags : List Ag} {p q i : Nat}, (slots ags).Nodup → ags[p]? = some (.sl i) → ags[q]? = some (.sl i) → p = q
  | [], p, q, i, _, h, _ => by simp at h
  | a :: r, 0, 0, i, _, _, _ => rfl
  | a :: r, 0, q + 1, i, nd, h1, h2 => by
    simp at h1; subst h1
    have := slots_mem (p := q) (i := i) (ags := r) (by simpa using h2)
    simp [slots] at nd
    exact absurd this nd.1
  | a :: r, p + 1, 0, i, nd, h1, h2 => by
    simp at h2; subst h2
    have := slots_mem (p := p) (i := i) (ags := r) (by simpa using h1)
    simp [slots] at nd
    exact absurd this nd.1
  | a :: r, p + 1, q + 1, i, nd, h1, h2 => by
    have nd' : (slots r).Nodup := by cases a <;> simp [slots] at nd <;> first | exact nd | exact nd.2
    rw [slots_inj (p := p) (q := q) (i := i) nd' (by simpa using h1) (by simpa using h2)]
/-- what putBack does, slot by slot -/
theorem putBack_spec : ∀ (ags : List Ag) (os : List (List D)) (ρ : Env), (slots ags).Nodup →
    (putBack ags os ρ).length = ρ.length ∧
    (∀ (j : Nat), (j ∉ slots ags ∨ isOwn (ρ.getD j .no) = false) → (putBack ags os ρ)[j]? = ρ[j]?) ∧
    (∀ (p j : Nat) (xs : List D), ags[p]? = some (Ag.sl j) → ρ[j]? = some (.own xs) → ∃ ys, (putBack ags os ρ)[j]? = some (.own ys) ∧ (replOwn (ags.map (toSl ρ)) os)[p]? = some (.own ys))
  | [], os, ρ, _ => ⟨rfl, fun _ _ => rfl, fun p j xs h => by simp at h⟩
  | .d x :: r, os, ρ, nd => by
    obtain ⟨h0, h1, h2⟩ := putBack_spec r os ρ nd
    refine ⟨h0, h1, fun p j xs e1 e2 => ?_⟩
    cases p with
    | zero => simp at e1
    | succ p =>
      obtain ⟨ys, q1, q2⟩ := h2 p j xs (by simpa using e1) e2
      exact ⟨ys, q1, by simpa [toSl, replOwn] using q2⟩
  | .sl i :: r, os, ρ, nd => by
    have ndr : (slots r).Nodup := by simp [slots] at nd; exact nd.2
    have nir : i ∉ slots r := by simp [slots] at nd; exact nd.1
    cases e : ρ.getD i .no with
    | own xs0 =>
      have ei : ρ[i]? = some (.own xs0) := by
        rw [List.getD_eq_getElem?_getD] at e
        cases q : ρ[i]? with
        | none => rw [q] at e; cases e
        | some s => rw [q] at e; simpa using e
      have hi : i < ρ.length := (List.getElem?_eq_some_iff.mp ei).1
      cases os with
      | nil =>
        have pe : putBack (.sl i :: r) [] ρ = putBack r [] ρ := by simp only [putBack, e]
        rw [pe]
        obtain ⟨h0, h1, h2⟩ := putBack_spec r [] ρ ndr
        refine ⟨h0, fun j hj => h1 j ?_, fun p j xs e1 e2 => ?_⟩
        · rcases hj with hj | hj
          · exact .inl fun z => hj (by simp [slots, z])
          · exact .inr hj
        · cases p with
          | zero =>
            simp at e1; subst e1
            refine ⟨xs, by rw [h1 i (.inl nir)]; exact e2, ?_⟩
            rw [ei] at e2; cases e2
            simp only [List.map_cons, toSl, e, replOwn, List.getElem?_cons_zero]
          | succ p =>
            obtain ⟨ys, q1, q2⟩ := h2 p j xs (by simpa using e1) e2
            exact ⟨ys, q1, by rw [List.map_cons]; simp only [toSl, e, replOwn, List.getElem?_cons_succ]; exact q2⟩
      | cons o os =>
        have pe : putBack (.sl i :: r) (o :: os) ρ = putBack r os (ρ.set i (.own o)) := by simp only [putBack, e]
        rw [pe]
        obtain ⟨h0, h1, h2⟩ := putBack_spec r os (ρ.set i (.own o)) ndr
        refine ⟨by rw [h0, List.length_set], fun j hj => ?_, fun p j xs e1 e2 => ?_⟩
        · have ne : i ≠ j := fun z => by
            subst z
            rcases hj with hj | hj
            · exact hj (by simp [slots])
            · rw [e] at hj; simp [isOwn] at hj
          rw [h1 j ?_, List.getElem?_set_ne ne]
          rcases hj with hj | hj
          · exact .inl fun z => hj (by simp [slots, z])
          · refine .inr ?_
            rw [List.getD_eq_getElem?_getD, List.getElem?_set_ne ne, ← List.getD_eq_getElem?_getD]; exact hj
        · cases p with
          | zero =>
            simp at e1; subst e1
            refine ⟨o, by rw [h1 i (.inl nir), List.getElem?_set_self hi], ?_⟩
            simp only [List.map_cons, toSl, e, replOwn, List.getElem?_cons_zero]
          | succ p =>
            have e1' : r[p]? = some (.sl j) := by simpa using e1
            have ne : i ≠ j := fun z => nir (by rw [z]; exact slots_mem e1')
            obtain ⟨ys, q1, q2⟩ := h2 p j xs e1' (by rw [List.getElem?_set_ne ne]; exact e2)
            refine ⟨ys, q1, ?_⟩
            have em : r.map (toSl (ρ.set i (.own o))) = r.map (toSl ρ) := List.map_congr_left fun a ha => by
              cases a with
              | d x => rfl
              | sl k =>
                have nk : i ≠ k := fun z => by
                  subst z
                  obtain ⟨q, hq, e3⟩ := List.mem_iff_getElem.mp ha
                  exact nir (slots_mem (p := q) (by rw [List.getElem?_eq_getElem hq, e3]))
                show (ρ.set i (.own o)).getD k .no = ρ.getD k .no
                rw [List.getD_eq_getElem?_getD, List.getElem?_set_ne nk, ← List.getD_eq_getElem?_getD]
            rw [em] at q2
            rw [List.map_cons]; simp only [toSl, e, replOwn, List.getElem?_cons_succ]; exact q2
    | _ =>
      have pe : putBack (.sl i :: r) os ρ = putBack r os ρ := by simp only [putBack, e]
      rw [pe]
      obtain ⟨h0, h1, h2⟩ := putBack_spec r os ρ ndr
      refine ⟨h0, fun j hj => ?_, fun p j xs e1 e2 => ?_⟩
      · by_cases z : j ∈ slots r
        · refine h1 j (.inr ?_)
          rcases hj with hj | hj
          · exact absurd (by simp [slots, z]) hj
          · exact hj
        · exact h1 j (.inl z)
      · cases p with
        | zero =>
          simp at e1; subst e1
          rw [List.getD_eq_getElem?_getD, e2] at e
          simp at e
        | succ p =>
          obtain ⟨ys, q1, q2⟩ := h2 p j xs (by simpa using e1) e2
          exact ⟨ys, q1, by rw [List.map_cons]; simp only [toSl, e, replOwn, List.getElem?_cons_succ]; exact q2⟩
end DL
end
section
namespace DL
open PySem PySem.Spec L2
open PyProof.Rows hiding St

theorem slots_at {i : Nat} : ∀ {ags : List Ag}, i ∈ slots ags → ∃ p : Nat, ags[p]? = some (Ag.sl i)
  | [], h => by simp [slots] at h
  | .d x :: l, h => by
    obtain ⟨p, hp⟩ := slots_at (ags := l) (by simpa [slots] using h)
    exact ⟨p + 1, by simpa using hp⟩
  | .sl j :: l, h => by
    simp only [slots, List.mem_cons] at h
    rcases h with rfl | h
    · exact ⟨0, rfl⟩
    · obtain ⟨p, hp⟩ := slots_at h
      exact ⟨p + 1, by simpa using hp⟩
theorem putBack_own {ags : List Ag} {os : List (List D)} {ρ : DL.Env} (nd : (slots ags).Nodup) {j : Nat} {ys : List D} (h : (putBack ags os ρ)[j]? = some (.own ys)) : ∃ xs, ρ[j]? = some (.own xs) := by
  obtain ⟨h0, h1, h2⟩ := putBack_spec ags os ρ nd
  by_cases hj : j ∈ slots ags ∧ isOwn (ρ.getD j .no) = true
  · have ho := hj.2
    rw [List.getD_eq_getElem?_getD] at ho
    cases q : ρ[j]? with
    | none => rw [q] at ho; simp [isOwn] at ho
    | some s =>
      rw [q] at ho
      cases s with
      | own xs => exact ⟨xs, rfl⟩
      | _ => simp [isOwn] at ho
  · have hj : j ∉ slots ags ∨ isOwn (ρ.getD j .no) = false := by
      by_cases a : j ∈ slots ags
      · right
        cases b : isOwn (ρ.getD j .no) with
        | false => rfl
        | true => exact absurd ⟨a, b⟩ hj
      · exact .inl a
    exact ⟨ys, by rw [← h1 j hj]; exact h⟩
/-- the caller's state behind a call -/
theorem after_call {G : Gh} {σ : L2.St} {H H' : Hp} {ρ : DL.Env} {vs : List V} {ags : List Ag} {os : List (List D)} (k : StOk G σ H ρ) (r : AgOk G.m σ H vs ags) (nd : (slots ags).Nodup) (kp : Keeps vs (ags.map (toSl ρ)) H H') (st : Stable H H')
    (a : ArgOk G.m G.ex vs H' (replOwn (ags.map (toSl ρ)) os)) : StOk G σ H' (putBack ags os ρ) := by
  obtain ⟨h0, h1, h2⟩ := putBack_spec ags os ρ nd
  have gd : ∀ {j : Nat} {s : Sl}, ρ[j]? = some s → ρ.getD j .no = s := fun {j s} h => by rw [List.getD_eq_getElem?_getD, h]; rfl
  -- a slot is an own argument's, or as it was
  have cases_ : ∀ (j : Nat), (putBack ags os ρ)[j]? = ρ[j]? ∨ ∃ (p : Nat) (xs ys : List D), ags[p]? = some (.sl j) ∧ ρ[j]? = some (.own xs) ∧ (putBack ags os ρ)[j]? = some (.own ys) ∧ (replOwn (ags.map (toSl ρ)) os)[p]? = some (.own ys) := fun j => by
    by_cases hj : j ∈ slots ags
    · cases ho : isOwn (ρ.getD j .no) with
      | false => exact .inl (h1 j (.inr ho))
      | true =>
        have e : ∃ xs, ρ[j]? = some (.own xs) := by
          rw [List.getD_eq_getElem?_getD] at ho
          cases q : ρ[j]? with
          | none => rw [q] at ho; simp [isOwn] at ho
          | some s =>
            rw [q] at ho
            cases s with
            | own xs => exact ⟨xs, rfl⟩
            | _ => simp [isOwn] at ho
        obtain ⟨xs, e⟩ := e
        have ex := slots_at hj
        obtain ⟨p, hp⟩ := ex
        obtain ⟨ys, q1, q2⟩ := h2 p j xs hp e
        exact .inr ⟨p, xs, ys, hp, e, q1, q2⟩
    · exact .inl (h1 j (.inl hj))
  have own0 : ∀ (j : Nat) (ys : List D), (putBack ags os ρ)[j]? = some (.own ys) → ∃ xs, ρ[j]? = some (.own xs) := fun j ys h => by
    rcases cases_ j with e | ⟨p, xs, _, _, e, _⟩
    · exact ⟨ys, by rw [← e]; exact h⟩
    · exact ⟨xs, e⟩
  have notarg : ∀ (b : Addr), (∀ (j : Nat) (xs : List D), ρ[j]? = some (.own xs) → j ∈ slots ags → σ[j]? ≠ some (some (.ref b))) → ∀ (p : Nat) (xs : List D), (ags.map (toSl ρ))[p]? = some (.own xs) → vs[p]? ≠ some (.ref b) := fun b hb p xs hp hv => by
    rw [List.getElem?_map] at hp
    cases q : ags[p]? with
    | none => rw [q] at hp; cases hp
    | some ag =>
      rw [q] at hp
      cases ag with
      | d x => simp [toSl] at hp
      | sl i =>
        have hp : ρ.getD i .no = .own xs := by simpa [toSl] using hp
        obtain ⟨v, e1, e2⟩ := r.atS q
        rw [hv] at e1; cases e1
        have ei : ρ[i]? = some (.own xs) := by
          rw [List.getD_eq_getElem?_getD] at hp
          cases z : ρ[i]? with
          | none => rw [z] at hp; cases hp
          | some s => rw [z] at hp; simpa using hp
        exact hb i xs ei (slots_mem q) e2
  refine ⟨by rw [k.len, h0], fun j x h => ?_, fun j ys h => ?_, fun i j xs ys b ne e1 e2 e3 => ?_, fun p hp => ?_, fun b o e1 e2 => ?_, fun j c h => ?_⟩
  · rcases cases_ j with e | ⟨p, xs, ys, _, _, e, _⟩
    · obtain ⟨v, q1, q2⟩ := k.dat j x (by rw [← e]; exact h)
      exact ⟨v, q1, q2.st st⟩
    · rw [e] at h; cases h
  · rcases cases_ j with e | ⟨p, xs, zs, e1, e2, e3, e4⟩
    · have hj : ρ[j]? = some (.own ys) := by rw [← e]; exact h
      by_cases hs : j ∈ slots ags
      · -- it is an argument, and stands as it stood
        obtain ⟨p, hp⟩ := slots_at hs
        obtain ⟨zs, q1, q2⟩ := h2 p j ys hp hj
        rw [h] at q1; cases q1
        obtain ⟨b, ws0, g1, g2, g3, g4⟩ := k.own j ys hj
        obtain ⟨b', ws, g5, g6, g7⟩ := a.own p ys q2
        obtain ⟨v, e5, e6⟩ := r.atS hp
        rw [g5] at e5; cases e5
        rw [g1] at e6; cases e6
        exact ⟨b, ws, g1, g6, g7, g4⟩
      · obtain ⟨b, ws, g1, g2, g3, g4⟩ := k.own j ys hj
        refine ⟨b, ws, g1, kp b _ g2 (notarg b fun i xs hi hm z => ?_), g3.st st, g4⟩
        have ne : i ≠ j := fun w => by subst w; exact hs hm
        exact k.sep i j xs ys b ne hi hj z g1
    · rw [h] at e3; cases e3
      obtain ⟨b, ws0, g1, g2, g3, g4⟩ := k.own j xs e2
      obtain ⟨b', ws, g5, g6, g7⟩ := a.own p ys e4
      obtain ⟨v, e5, e6⟩ := r.atS e1
      rw [g5] at e5; cases e5
      rw [g1] at e6; cases e6
      exact ⟨b, ws, g1, g6, g7, g4⟩
  · obtain ⟨u1, o1⟩ := own0 i xs e1
    obtain ⟨u2, o2⟩ := own0 j ys e2
    exact k.sep i j u1 u2 b ne o1 o2 e3
  · obtain ⟨q1, xs, q2⟩ := k.prot p hp
    refine ⟨q1, ?_⟩
    rcases cases_ p.1 with e | ⟨_, _, ys, _, _, e, _⟩
    · exact ⟨xs, by rw [e]; exact q2⟩
    · exact ⟨ys, e⟩
  · refine kp b o (k.keep b o e1 e2) (notarg b fun i xs hi _ z => ?_)
    obtain ⟨b', ws, g1, _, _, g4⟩ := k.own i xs hi
    rw [z] at g1; cases g1
    by_cases c : ∀ p ∈ G.pr, p.1 ≠ i
    · have q := (g4 c).1
      rw [e1] at q; cases q
    · apply c
      intro p hp w
      obtain ⟨q1, _⟩ := k.prot p hp
      rw [w, z] at q1
      injection q1 with q1; injection q1 with q1; injection q1 with q1
      exact e2 p hp q1.symm
  · rcases cases_ j with e | ⟨p, xs, ys, _, _, e, _⟩
    · exact k.exn j c (by rw [← e]; exact h)
    · rw [e] at h; cases h

/-! ### arguments of a def's call -/
def gT (G : Gh) (W : WX) (f : M (List Ag)) : TA := fun σ H Q => ∃ ρ, StOk G σ H ρ ∧ postG G W σ H (f ρ) fun ags _ H' => ∀ vs, AgOk G.m σ H' vs ags → Q vs H'
def DG (X : Cx) (G : Gh) (W : WX) (es : List Expr) (f : M (List Ag)) : Prop := PA X es (gT G W f)
def consA (f : M D) (g : M (List Ag)) : M (List Ag) := bindM f fun x => bindM g fun r => pureM (.d x :: r)
def consS (i : Nat) (g : M (List Ag)) : M (List Ag) := bindM g fun r => pureM (.sl i :: r)
/-- ags to a call -/
def callM (f : Fn) (fa : M (List Ag)) : M D := bindM fa fun ags ρ => if (slots ags).Nodup then (match f (ags.map (toSl ρ)) with
  | .ok d os => .ok d (putBack ags os ρ)
  | .exc c os => .exc c (putBack ags os ρ)
  | .stuck => .stuck) else .stuck
def callL (f : Fn) (fa : M (List Ag)) : M (List D) := bindM (callM f fa) fun d => match d with
  | .lst ds => pureM ds
  | _ => stuckM
section
variable {X : Cx} {G : Gh} {W : WX} {e : Expr} {es : List Expr} {pos : Pos}
theorem dg_nil : DG X G W [] (pureM []) := pa_imp pa_nil fun σ H Q ⟨ρ, k, q⟩ => q H Stable.rfl k _ .nil
theorem dg_d {f : M D} {g : M (List Ag)} (ha : DE X G W e f) (hr : DG X G W es g) (hs : starEach (e :: es) X.env = (false, eval e X.env) :: starEach es X.env := by rfl) : DG X G W (e :: es) (consA f g) :=
  pa_imp (pa_cons ha hr hs) fun σ H Q ⟨ρ, k, q⟩ => ⟨ρ, k, q.bind.mono fun x ρ1 H1 _ s1 k1 q1 v r => ⟨ρ1, k1, q1.bind.mono fun xs ρ2 H2 _ s2 k2 q2 vs rs => q2 H2 Stable.rfl k2 _ (.d (r.st s2) rs)⟩⟩
/-- the slot is own (or the handled exception) when the call comes -/
def haveS (i : Nat) : M Unit := fun ρ => match ρ[i]? with
  | some (.own _) => .ok () ρ
  | some (.exn _) => .ok () ρ
  | _ => .stuck
theorem dg_s (i : Nat) {x : Str} {g : M (List Ag)} {pos' : Pos} (hr : DG X G W es g) (hN : X.N[i]? = some x) (hv : Vis X.env.scope x := by first | exact .inl rfl | exact .inr (.inl rfl) | exact .inr (.inr rfl)) (hd : (x == ("__debug__" : Str)) = false := by decide) (hcd : (x == ("__classdict__" : Str)) = false := by decide)
    (hs : starEach (.Name x pos' :: es) X.env = (false, eval (.Name x pos') X.env) :: starEach es X.env := by rfl) : DG X G W (.Name x pos' :: es) (bindM (haveS i) fun _ => consS i g) :=
  pa_imp (pa_cons (pe_var (i := i) hN hv hd hcd) hr hs) fun σ H Q ⟨ρ, k, q⟩ => by
    have fin : ∀ a, σ[i]? = some (some (.ref a)) → postG G W σ H (consS i g ρ) (fun ags _ H' => ∀ vs, AgOk G.m σ H' vs ags → Q vs H') → tCons (tVar i) (gT G W g) σ H Q := fun a h1 q =>
      ⟨_, h1, ρ, k, q.bind.mono fun ags ρ1 H1 _ s1 k1 q1 vs rs => q1 H1 Stable.rfl k1 _ (.sl h1 rs)⟩
    have q := q.bind
    cases e : ρ[i]? with
    | none =>
      have e2 : haveS i ρ = .stuck := by unfold haveS; rw [e]
      rw [e2] at q; exact q.elim
    | some s =>
      cases s with
      | own xs =>
        have e2 : haveS i ρ = .ok () ρ := by unfold haveS; rw [e]
        rw [e2] at q
        obtain ⟨a, vs, h1, _⟩ := k.own i xs e
        exact fin a h1 (q H Stable.rfl k)
      | exn c =>
        have e2 : haveS i ρ = .ok () ρ := by unfold haveS; rw [e]
        rw [e2] at q
        obtain ⟨a, _, h1⟩ := k.exn i c e
        exact fin a h1 (q H Stable.rfl k)
      | no =>
        have e2 : haveS i ρ = .stuck := by unfold haveS; rw [e]
        rw [e2] at q; exact q.elim
      | d x =>
        have e2 : haveS i ρ = .stuck := by unfold haveS; rw [e]
        rw [e2] at q; exact q.elim
/-- the arguments as the callee meets them -/
theorem ag_arg {σ : L2.St} {H : Hp} {ρ : DL.Env} {vs : List V} {ags : List Ag} (k : StOk G σ H ρ) (r : AgOk G.m σ H vs ags) (nd : (slots ags).Nodup) : ArgOk G.m G.ex vs H (ags.map (toSl ρ)) := by
  have at_ : ∀ (i : Nat) (s : Sl), s ≠ .no → (ags.map (toSl ρ))[i]? = some s → (∃ x, s = .d x ∧ ags[i]? = some (.d x)) ∨ ∃ j, ags[i]? = some (.sl j) ∧ ρ[j]? = some s := fun i s hs h => by
    rw [List.getElem?_map] at h
    cases q : ags[i]? with
    | none => rw [q] at h; cases h
    | some ag =>
      rw [q] at h
      cases ag with
      | d x => simp [toSl] at h; exact .inl ⟨x, h.symm, rfl⟩
      | sl j =>
        refine .inr ⟨j, rfl, ?_⟩
        have h : ρ.getD j .no = s := by simpa [toSl] using h
        rw [List.getD_eq_getElem?_getD] at h
        cases z : ρ[j]? with
        | none => rw [z] at h; exact absurd h.symm hs
        | some t => rw [z] at h; simpa using h
  refine ⟨by rw [List.length_map]; exact r.len, fun i x h => ?_, fun i xs h => ?_, fun i j xs ys a ne h1 h2 h3 h4 => ?_, fun i c h => ?_⟩
  · rcases at_ i _ (fun z => by cases z) h with ⟨y, e, q⟩ | ⟨j, q, e⟩
    · cases e; exact r.atD q
    · obtain ⟨v, e1, e2⟩ := r.atS q
      obtain ⟨w, e3, e4⟩ := k.dat j x e
      rw [e2] at e3; cases e3
      exact ⟨v, e1, e4⟩
  · rcases at_ i _ (fun z => by cases z) h with ⟨y, e, q⟩ | ⟨j, q, e⟩
    · cases e
    · obtain ⟨v, e1, e2⟩ := r.atS q
      obtain ⟨a, ws, e3, e4, e5, _⟩ := k.own j xs e
      rw [e2] at e3; cases e3
      exact ⟨a, ws, e1, e4, e5⟩
  · rcases at_ i _ (fun z => by cases z) h1 with ⟨y, e, q⟩ | ⟨i', q, e⟩
    · cases e
    rcases at_ j _ (fun z => by cases z) h2 with ⟨y, e', q'⟩ | ⟨j', q', e'⟩
    · cases e'
    obtain ⟨v, e1, e2⟩ := r.atS q
    obtain ⟨v', e1', e2'⟩ := r.atS q'
    rw [h3] at e1; cases e1
    rw [h4] at e1'; cases e1'
    have ne' : i' ≠ j' := fun z => by subst z; exact ne (slots_inj nd q q')
    exact k.sep i' j' xs ys a ne' e e' e2 e2'
  · rcases at_ i _ (fun z => by cases z) h with ⟨y, e, q⟩ | ⟨j, q, e⟩
    · cases e
    · obtain ⟨v, e1, e2⟩ := r.atS q
      obtain ⟨a, e3, e4⟩ := k.exn j c e
      rw [e2] at e4; cases e4
      exact ⟨a, e3, e1⟩
theorem call_run {md : List Bool} {rm : Bool} {f : Fn} {σ : L2.St} {H : Hp} {ρ : DL.Env} {vs : List V} {ags : List Ag} {Q : VK} {R : D → DL.Env → Hp → Prop} (hex : G.ex = none) (k : StOk G σ H ρ) (r : AgOk G.m σ H vs ags) (hmd : ∀ ρ', ρ' = ags.map (toSl ρ) → ρ'.map isOwn = md)
    (q : postG G W σ H (if (slots ags).Nodup then (match f (ags.map (toSl ρ)) with
      | .ok d os => .ok d (putBack ags os ρ)
      | .exc c os => .exc c (putBack ags os ρ)
      | .stuck => .stuck) else .stuck) R) (hQ : ∀ d ρ' v H', Stable H H' → StOk G σ H' ρ' → (∀ (i : Nat) ys, ρ'[i]? = some (Sl.own ys) → ∃ xs, ρ[i]? = some (Sl.own xs)) → RetF rm G.m H H' v d → R d ρ' H' → Q v H') : spD G.m none md rm f vs H Q (WE W σ) := by
  by_cases nd : (slots ags).Nodup
  · rw [if_pos nd] at q
    refine ⟨ags.map (toSl ρ), hmd _ rfl, by have := ag_arg k r nd; rw [hex] at this; exact this, ?_⟩
    cases e : f (ags.map (toSl ρ)) with
    | ok d os =>
      rw [e] at q
      intro v H' kp st a rf
      have k' := after_call k r nd kp st (by rw [hex]; exact a)
      exact hQ d _ v H' st k' (fun i ys h => putBack_own nd h) rf (q H' st k')
    | exc c os =>
      rw [e] at q
      intro C H' e kp st a
      have k' := after_call k r nd kp st (by rw [hex]; exact a)
      exact q C H' e st k'
    | stuck => rw [e] at q; exact q.elim
  · rw [if_neg nd] at q; exact q.elim
/-- which slots the arguments hand on by reference: a check -/
def mdM (md : List Bool) (fa : M (List Ag)) : M (List Ag) := bindM fa fun ags ρ => if (ags.map (toSl ρ)).map isOwn = md then .ok ags ρ else .stuck
variable {CX : CXT} {kk : Nat} {fA : Addr} {fd : FuncData} {ps : List Str} {md : List Bool} {f : Fn} {x : Str} {p : Pos}
theorem mdM_run {fa : M (List Ag)} {σ : L2.St} {H : Hp} {ρ : DL.Env} {β : Type} {kf : List Ag → M β} {R : β → DL.Env → Hp → Prop} (q : postG G W σ H (bindM (mdM md fa) kf ρ) R) :
    postG G W σ H (fa ρ) fun ags ρ1 H1 => (ags.map (toSl ρ1)).map isOwn = md ∧ postG G W σ H1 (kf ags ρ1) R := by
  unfold mdM bindM at q
  cases e : fa ρ with
  | ok ags ρ1 =>
    rw [e] at q
    by_cases h : (ags.map (toSl ρ1)).map isOwn = md
    · intro H1 s1 k1
      refine ⟨h, ?_⟩
      simp only [h, if_true] at q
      exact postG.from s1 q
    · simp only [h, if_false] at q; exact q.elim
  | exc c ρ1 => rw [e] at q; exact q
  | stuck => rw [e] at q; exact q
theorem de_call {fa : M (List Ag)} (hex : G.ex = none) (hm0 : G.m = ⟨X.K, X.mg⟩) (tk : Takes X W) (F : FnOk X.prog X.w X.K X.mg X.base (L2.CX X.prog X.w) kk fA fd ps (spD ⟨X.K, X.mg⟩ none md false f)) (hr : Room kk X.A) (hg : Gl X x) (hm : X.mg x = some (.ref fA)) (hk : PySem.W.keepIn X.K (.ref fA) = true) (hb : Binds X.K fd ps [])
    (ha : DG X G W (e :: es) fa) (hdb : (x == ("__debug__" : Str)) = false := by decide) (he : starEach (e :: es) X.env = (false, eval e X.env) :: starEach es X.env := by rfl) (hpl : (backTo pos (starEach es X.env)).any (·.1) = false := by rfl) :
    DE X G W (.Call (.Name x p) (e :: es) [] pos) (callM f (mdM md fa)) :=
  pe_imp (pe_callS F hr hg hm hk hb (fun σ => passAt tk σ) ha hdb he hpl) fun σ H Q ⟨ρ, k, q⟩ => ⟨ρ, k, (mdM_run q).mono fun ags ρ1 H1 _ s1 k1 q1 vs rs => by
    rw [← hm0]
    exact call_run hex k1 rs (fun ρ' e => by rw [e]; exact q1.1) q1.2 fun d ρ' v H' _ _ _ rf h => h v rf⟩
theorem do_call {fa : M (List Ag)} (hex : G.ex = none) (hm0 : G.m = ⟨X.K, X.mg⟩) (tk : Takes X W) (F : FnOk X.prog X.w X.K X.mg X.base (L2.CX X.prog X.w) kk fA fd ps (spD ⟨X.K, X.mg⟩ none md true f)) (hr : Room kk X.A) (hg : Gl X x) (hm : X.mg x = some (.ref fA)) (hk : PySem.W.keepIn X.K (.ref fA) = true) (hb : Binds X.K fd ps [])
    (ha : DG X G W (e :: es) fa) (hdb : (x == ("__debug__" : Str)) = false := by decide) (he : starEach (e :: es) X.env = (false, eval e X.env) :: starEach es X.env := by rfl) (hpl : (backTo pos (starEach es X.env)).any (·.1) = false := by rfl) :
    DO X G W (.Call (.Name x p) (e :: es) [] pos) (callL f (mdM md fa)) :=
  pe_imp (pe_callS F hr hg hm hk hb (fun σ => passAt tk σ) ha hdb he hpl) fun σ H Q ⟨ρ, k, q⟩ => ⟨ρ, k, (mdM_run q.bind).mono fun ags ρ1 H1 _ s1 k1 q1 vs rs => by
    rw [← hm0]
    refine call_run hex k1 rs (fun ρ' e => by rw [e]; exact q1.1) q1.2 fun d ρ' v H' s' k' ow rf h => ?_
    obtain ⟨a, ws, ds, rfl, rfl, e1, e2, e3⟩ := rf
    have fr := k1.fresh e3
    refine h H' Stable.rfl k' a ws e1 e2 ⟨fr.1, fr.2.1, fun i xs hi z => ?_⟩
    obtain ⟨xs0, h0⟩ := ow i xs hi
    exact fr.2.2 i xs0 h0 z⟩
end
end DL
end
section
namespace DL
open PySem PySem.Spec L2
open PyProof.Rows hiding St

abbrev W0 : WX := fun _ _ _ _ => False
theorem takes0 {X : Cx} : Takes X W0 := fun u s' ⟨_, _, _, _, _, _, _, _, _, _, _, _, _, _, _, _, w⟩ => w.elim

/-! ### targets -/
abbrev TgF := D → DL.Env → Option DL.Env
def SameBut (js : List Nat) (σ σ' : L2.St) : Prop := σ'.length = σ.length ∧ ∀ j, j ∉ js → σ'[j]? = σ[j]?
def tgT (G : Gh) (js : List Nat) (t : TgF) : TG := fun v σ H Q => ∃ ρ d ρ', StOk G σ H ρ ∧ Rep G.m H v d ∧ t d ρ = some ρ' ∧ ∀ σ' H', SameBut js σ σ' → Stable H H' → StOk G σ' H' ρ' → Q σ' H'
def DGt (X : Cx) (G : Gh) (tg : Expr) (js : List Nat) (t : TgF) : Prop := PG X tg (tgT G js t)
abbrev TgsF := List D → DL.Env → Option DL.Env
def tgsT (G : Gh) (js : List Nat) (t : TgsF) : TGs := fun vs σ H Q => ∃ ρ ds ρ', StOk G σ H ρ ∧ RepL G.m H vs ds ∧ t ds ρ = some ρ' ∧ ∀ σ' H', SameBut js σ σ' → Stable H H' → StOk G σ' H' ρ' → Q σ' H'
def DGts (X : Cx) (G : Gh) (tgs : List Expr) (js : List Nat) (t : TgsF) : Prop := PGs X tgs (tgsT G js t)
theorem pg_imp {X : Cx} {e : Expr} {t t' : TG} (h : PG X e t) (k : ∀ v σ H Q, t' v σ H Q → t v σ H Q) : PG X e t' := ⟨fun pins s σ H v u Q I r q => h.run pins s σ H v u Q I r (k v σ H Q q)⟩
theorem pgs_imp {X : Cx} {e : List Expr} {t t' : TGs} (h : PGs X e t) (k : ∀ v σ H Q, t' v σ H Q → t v σ H Q) : PGs X e t' := ⟨fun pins s σ H v u Q I r q => h.run pins s σ H v u Q I r (k v σ H Q q)⟩
def tgN (i : Nat) : TgF := fun d ρ => some (ρ.set i (.d d))
def tgU (n : Nat) (t : TgsF) : TgF := fun d ρ => match d with
  | .tup ds => if ds.length = n then t ds ρ else none
  | _ => none
def tgs0 : TgsF := fun ds ρ => match ds with
  | [] => some ρ
  | _ => none
def tgs1 (t : TgF) (u : TgsF) : TgsF := fun ds ρ => match ds with
  | [] => none
  | d :: r => (t d ρ).bind (u r)
section
variable {X : Cx} {G : Gh} {W : WX} {rm : Bool} {pos : Pos}
theorem dg_name (i : Nat) {x : Str} (hp : pfree G i) (hN : X.N.Nodup) (hi : X.N[i]? = some x) (hx : Loc X.env.scope x) (hf : X.fn x = true ∨ X.env.scope.names.lookup x = some .local := by first | exact .inl rfl | exact .inr rfl | assumption) : DGt X G (.Name x pos) [i] (tgN i) :=
  pg_imp (pg_name hN hi hx hf) fun v σ H Q ⟨ρ, d, ρ', k, r, e, q⟩ => by
    cases e
    exact q _ _ ⟨by simp, fun j hj => by rw [List.getElem?_set_ne (fun z => hj (by simp [z]))]⟩ Stable.rfl (k.setD hp r)
theorem dgs_nil : DGts X G [] [] tgs0 := pgs_imp pgs_nil fun vs σ H Q ⟨ρ, ds, ρ', k, r, e, q⟩ => by
  cases r with
  | nil => cases e; exact ⟨rfl, q _ _ ⟨rfl, fun _ _ => rfl⟩ Stable.rfl k⟩
  | cons a b => cases e
theorem SameBut.trans {js ks : List Nat} {σ σ1 σ2 : L2.St} (a : SameBut js σ σ1) (b : SameBut ks σ1 σ2) : SameBut (js ++ ks) σ σ2 := ⟨b.1.trans a.1, fun j hj => by
  rw [b.2 j (fun z => hj (by simp [z])), a.2 j (fun z => hj (by simp [z]))]⟩
theorem dgs_cons {e : Expr} {es : List Expr} {js ks : List Nat} {t : TgF} {u : TgsF} (h1 : DGt X G e js t) (h2 : DGts X G es ks u) (hs : (assignEach (e :: es) X.env).map (·.2) = assign e X.env :: (assignEach es X.env).map (·.2) := by rfl) : DGts X G (e :: es) (js ++ ks) (tgs1 t u) :=
  pgs_imp (pgs_cons h1 h2 hs) fun vs σ H Q ⟨ρ, ds, ρ', k, r, e, q⟩ => by
    cases r with
    | nil => cases e
    | @cons v vs d ds a b =>
      have e : (t d ρ).bind (u ds) = some ρ' := e
      cases e1 : t d ρ with
      | none => rw [e1] at e; cases e
      | some ρ1 =>
        rw [e1] at e
        exact ⟨v, vs, rfl, ρ, d, ρ1, k, a, e1, fun σ1 H1 b1 s1 k1 => ⟨ρ1, ds, ρ', k1, b.st s1, e, fun σ2 H2 b2 s2 k2 => q σ2 H2 (b1.trans b2) (s1.trans s2) k2⟩⟩
theorem dg_tup {es : List Expr} {k : Nat} {js : List Nat} {t : TgsF} {n : Nat} (hK : G.m = ⟨X.K, X.mg⟩) (hc : X.calm = true) (h : DGts X G es js t) (hn : (assignEach es X.env).length = n := by rfl) (hst : (assignEach es X.env).findIdx? (·.1) = none := by rfl) : DGt X G (.Tuple es k pos) js (tgU n t) :=
  pg_imp (pg_tup hc h hn hst) fun v σ H Q ⟨ρ, d, ρ', k, r, e, q⟩ => by
    cases r with
    | @tup a vs ds hq rl =>
      have e : (if ds.length = n then t ds ρ else none) = some ρ' := e
      by_cases hl : ds.length = n
      · rw [if_pos hl] at e
        exact ⟨a, vs, rfl, by rw [hK] at hq; exact hq, by rw [rl.len]; exact hl, ρ, ds, ρ', k, rl, e, q⟩
      · rw [if_neg hl] at e; cases e
    | _ => cases e
/-- targets = e, e a tuple -/
def asgM (f : M D) (t : TgF) : MS := bindM f fun d ρ => match t d ρ with
  | some ρ' => .ok .nx ρ'
  | none => .stuck
theorem ds_asg {tg e : Expr} {f : M D} {js : List Nat} {t : TgF} (he : DE X G W e f) (hg : DGt X G tg js t) (hs : swapsWithSole [tg] e pos.line X.env = pure false := by rfl) (hw : swappedStores [tg] e X.env = pure none := by rfl)
    (h1 : (assignEach [tg] X.env).map (·.2) = [assign tg X.env] := by rfl) : DS X G W rm (.Assign [tg] e pos) (asgM f t) :=
  ps_imp (ps_asg he hg hs hw h1) fun E σ H ⟨ρ, k, q⟩ => ⟨ρ, k, q.bind.mono fun d ρ1 H1 _ s1 k1 q1 v r => by
    cases e1 : t d ρ1 with
    | none => rw [e1] at q1; exact q1.elim
    | some ρ2 =>
      rw [e1] at q1
      exact ⟨ρ1, d, ρ2, k1, r, e1, fun σ' H' _ s' k' => q1 σ' H' s' k'⟩⟩
/-- a, b = e1, e2 -/
def parM (i j : Nat) (f : M (List D)) : MS := bindM f fun ds ρ => match ds with
  | [x, y] => .ok .nx ((ρ.set i (.d x)).set j (.d y))
  | _ => .stuck
theorem ds_par (i j : Nat) {x y : Str} {a b : Expr} {f : M (List D)} {px py pt : Pos} {kt k2 pt2} (hi' : pfree G i) (hj' : pfree G j) (hc : X.calm = true) (hN : X.N.Nodup) (hi : X.N[i]? = some x) (hj : X.N[j]? = some y) (hij : i ≠ j)
    (hx : X.env.scope.names.lookup x = some .local) (hy : X.env.scope.names.lookup y = some .local) (ha : DA X G W [a, b] f)
    (hw : swappedStores [.Tuple [.Name x px, .Name y py] kt pt] (.Tuple [a, b] k2 pt2) X.env = pure (some [x, y]))
    (hs : swapsWithSole [.Tuple [.Name x px, .Name y py] kt pt] (.Tuple [a, b] k2 pt2) pos.line X.env = pure false := by rfl) :
    DS X G W rm (.Assign [.Tuple [.Name x px, .Name y py] kt pt] (.Tuple [a, b] k2 pt2) pos) (parM i j f) :=
  ps_imp (ps_par hc hN hi hj hij hx hy ha hw hs) fun E σ H ⟨ρ, k, q⟩ => ⟨ρ, k, q.bind.mono fun ds ρ1 H1 _ s1 k1 q1 vs r => by
    cases r with
    | nil => exact q1.elim
    | cons r1 r =>
      cases r with
      | nil => exact q1.elim
      | cons r2 r =>
        cases r with
        | nil => exact ⟨_, _, rfl, q1 _ _ Stable.rfl ((k1.setD hi' r1).setD hj' r2)⟩
        | cons r3 r => exact q1.elim⟩

/-! ### what is walked -/
structure IterOk (m : Md) (H : Hp) (J : It) (xs : List D) : Prop where
  stop : ∀ i H', Stable H H' → xs.length ≤ i → J.stop i H'
  go : ∀ i H', Stable H H' → i < xs.length → J.go i H'
  yld : ∀ i H1 v H2, Stable H H1 → i < xs.length → J.yld i H1 v H2 → H2 = H1 ∧ ∃ d, xs[i]? = some d ∧ Rep m H1 v d
def iT (G : Gh) (W : WX) (f : M (List D)) : TI := fun σ H R => ∃ ρ, StOk G σ H ρ ∧ postG G W σ H (f ρ) fun xs _ H' => ∀ J, IterOk G.m H' J xs → R J H'
def DI (X : Cx) (G : Gh) (W : WX) (tg iter : Expr) (f : M (List D)) : Prop := PI X tg iter (iT G W f)
theorem pi_imp {tg iter : Expr} {t t' : TI} (h : PI X tg iter t) (k : ∀ σ H R, t' σ H R → t σ H R) : PI X tg iter t' := ⟨fun pins s σ H R I q => h.run pins s σ H R I (k σ H R q)⟩
theorem iter_list {m : Md} {H : Hp} {a : Addr} {vs : List V} {ds : List D} (hq : SqF m.K H a vs) (r : RepL m H vs ds) : IterOk m H (Itl m.K a) ds where
  stop := fun i H' s h => ⟨vs, (hq.st s).sq, by rw [r.len]; exact h⟩
  go := fun i H' s h => ⟨vs, vs[i]'(by rw [r.len]; exact h), (hq.st s).sq, by simp [r.len, h]⟩
  yld := fun i H1 v H2 s hi h => by
    obtain ⟨e, h⟩ := h
    have hv := h vs (hq.st s).sq
    obtain ⟨d, h1, h2⟩ := r.getV hv
    exact ⟨e, d, h1, h2.st s⟩
theorem iter_tup {m : Md} {H : Hp} {a : Addr} {vs : List V} {ds : List D} (hq : SqT m.K H a vs) (r : RepL m H vs ds) : IterOk m H (Itt m.K a) ds where
  stop := fun i H' s h => ⟨vs, SqT_st s hq, by rw [r.len]; exact h⟩
  go := fun i H' s h => ⟨vs, vs[i]'(by rw [r.len]; exact h), SqT_st s hq, by simp [r.len, h]⟩
  yld := fun i H1 v H2 s hi h => by
    obtain ⟨e, h⟩ := h
    have hv := h vs (SqT_st s hq)
    obtain ⟨d, h1, h2⟩ := r.getV hv
    exact ⟨e, d, h1, h2.st s⟩
/-- a list or a tuple, walked -/
def iAny (K : PySem.W.Frag) (tl : TE) : TI := fun σ H R => tl σ H fun x H1 => ∃ a, x = .ref a ∧ (((∃ xs, SqL K H1 a xs) ∧ R (Itl K a) H1) ∨ ((∃ xs, SqT K H1 a xs) ∧ R (Itt K a) H1))
theorem pi_any {tg l : Expr} {tl : TE} (hl : PE X l tl) : PI X tg l (iAny X.K tl) := ⟨fun pins s σ H R I h => thn (hl.run pins s σ H _ I h) fun v s1 ⟨x, H1, I1, r1, a, e, q⟩ => by
  subst e
  cases r1
  have new : ∀ b ∈ [s1.heap.objs.size], FpOk X pins H1 b := fun b hb => by
    rw [List.mem_singleton.mp hb]
    exact I1.fpOk (Nat.le_refl _) (I1.hok.fresh (Nat.le_refl _))
  rcases q with ⟨⟨xs, hq⟩, q⟩ | ⟨⟨xs, hq⟩, q⟩
  · obtain ⟨its, _, pl, _⟩ := I1.list hq
    exact wpAny_pyIter_list pl.isList ⟨_, _, _, _, H1, rfl, I1.kept (t' := s1.toks) (fun b o e => Heap.get?_push_of_some _ e), turn_list a _, ⟨_, Heap.get?_push_size _ rfl, rfl, rfl⟩, new, q⟩
  · obtain ⟨its, _, pt, _⟩ := I1.tuple hq
    exact wpAny_pyIter_tuple (items := its.toArray) pt ⟨_, _, _, _, H1, rfl, I1.kept (t' := s1.toks) (fun b o e => Heap.get?_push_of_some _ e), turn_tuple a _, ⟨_, Heap.get?_push_size _ rfl, rfl, rfl⟩, new, q⟩⟩
def itemsOf : D → Option (List D)
  | .lst xs => some xs
  | .tup xs => some xs
  | _ => none
def itemsM (f : M D) : M (List D) := bindM f fun d => liftM (itemsOf d)
theorem di_any {tg l : Expr} {f : M D} (hK : G.m = ⟨X.K, X.mg⟩) (h : DE X G W l f) : DI X G W tg l (itemsM f) := pi_imp (pi_any h) fun σ H R ⟨ρ, k, q⟩ => ⟨ρ, k, q.bind.mono fun d ρ1 H1 _ s1 k1 q1 v r => by
  have eK : G.m.K = X.K := by rw [hK]
  cases r with
  | lst hq rl => exact ⟨_, rfl, .inl ⟨⟨_, eK ▸ hq.sq⟩, q1 H1 Stable.rfl k1 _ (eK ▸ iter_list hq rl)⟩⟩
  | tup hq rl => exact ⟨_, rfl, .inr ⟨⟨_, eK ▸ hq⟩, q1 H1 Stable.rfl k1 _ (eK ▸ iter_tup hq rl)⟩⟩
  | _ => exact q1.elim⟩
def inRg (i : Int) : Bool := decide (-(2 ^ 62) ≤ i) && decide (i < 2 ^ 62)
def rg1 : List D → Option (List D)
  | [.int j] => if inRg j = true then some ((List.range j.toNat).map fun (i : Nat) => D.int (0 + (i : Int))) else none
  | _ => none
def rg2 : List D → Option (List D)
  | [.int i, .int j] => if inRg i = true ∧ inRg j = true then some ((List.range (j - i).toNat).map fun (k : Nat) => D.int (i + (k : Int))) else none
  | _ => none
def rg1M (f : M (List D)) : M (List D) := bindM f fun ds => liftM (rg1 ds)
def rg2M (f : M (List D)) : M (List D) := bindM f fun ds => liftM (rg2 ds)
theorem iter_range {m : Md} {H : Hp} {lo : Int} {n : Nat} : IterOk m H (Itr lo n) ((List.range n).map fun (k : Nat) => D.int (lo + (k : Int))) where
  stop := fun i H' s h => show n ≤ i by simpa using h
  go := fun i H' s h => show i < n by simpa using h
  yld := fun i H1 v H2 s hi h => by
    obtain ⟨e, e2⟩ := h
    subst e2
    have hi : i < n := by simpa using hi
    exact ⟨e, .int (lo + i), by simp [hi], .int _⟩
theorem inRg_iff {i : Int} (h : inRg i = true) : -(2 ^ 62) ≤ i ∧ i < 2 ^ 62 := by
  unfold inRg at h
  simpa using h
theorem rg1_inv {ds xs : List D} (h : rg1 ds = some xs) : ∃ j, ds = [.int j] ∧ inRg j = true ∧ xs = ((List.range j.toNat).map fun (i : Nat) => D.int (0 + (i : Int))) := by
  unfold rg1 at h
  split at h
  · split at h
    · rename_i j hb; cases h; exact ⟨_, rfl, hb, rfl⟩
    · cases h
  · cases h
theorem rg2_inv {ds xs : List D} (h : rg2 ds = some xs) : ∃ i j, ds = [.int i, .int j] ∧ inRg i = true ∧ inRg j = true ∧ xs = ((List.range (j - i).toNat).map fun (k : Nat) => D.int (i + (k : Int))) := by
  unfold rg2 at h
  split at h
  · split at h
    · rename_i hb; cases h; exact ⟨_, _, rfl, hb.1, hb.2, rfl⟩
    · cases h
  · cases h
theorem di_range1 {tg a : Expr} {f : M (List D)} {p : Pos} (hg : Gl X "range") (hm : X.mg "range" = none) (ha : DA X G W [a] f) (hs : starEach [a] X.env = [(false, eval a X.env)] := by rfl) : DI X G W tg (.Call (.Name "range" p) [a] [] pos) (rg1M f) :=
  pi_imp (pi_range1 hg hm ha hs) fun σ H R ⟨ρ, k, q⟩ => ⟨ρ, k, q.bind.mono fun ds ρ1 H1 _ s1 k1 q1 vs r => by
    obtain ⟨xs, e, q2⟩ := q1.lift k1
    obtain ⟨j, rfl, hb, rfl⟩ := rg1_inv e
    cases r with
    | cons r0 r =>
      cases r
      cases r0
      exact ⟨j, rfl, (inRg_iff hb).1, (inRg_iff hb).2, q2 H1 Stable.rfl k1 _ iter_range⟩⟩
theorem di_range2 {tg a b : Expr} {f : M (List D)} {p : Pos} (hg : Gl X "range") (hm : X.mg "range" = none) (ha : DA X G W [a, b] f) (hs : starEach [a, b] X.env = [(false, eval a X.env), (false, eval b X.env)] := by rfl) (hs2 : starEach [b] X.env = [(false, eval b X.env)] := by rfl) : DI X G W tg (.Call (.Name "range" p) [a, b] [] pos) (rg2M f) :=
  pi_imp (pi_range2 hg hm ha hs hs2) fun σ H R ⟨ρ, k, q⟩ => ⟨ρ, k, q.bind.mono fun ds ρ1 H1 _ s1 k1 q1 vs r => by
    obtain ⟨xs, e, q2⟩ := q1.lift k1
    obtain ⟨i, j, rfl, hi, hj, rfl⟩ := rg2_inv e
    cases r with
    | cons r0 r =>
      cases r with
      | cons r1 r =>
        cases r
        cases r0
        cases r1
        exact ⟨i, j, rfl, ⟨(inRg_iff hi).1, (inRg_iff hi).2, (inRg_iff hj).1, (inRg_iff hj).2⟩, q2 H1 Stable.rfl k1 _ iter_range⟩⟩

/-! ### for -/
def forM (tg : TgF) (body : MS) : List D → MS
  | [] => skipM
  | x :: xs => fun ρ => match tg x ρ with
    | none => .stuck
    | some ρ1 => match body ρ1 with
      | .ok .nx ρ2 => forM tg body xs ρ2
      | .ok .ct ρ2 => forM tg body xs ρ2
      | .ok .brk ρ2 => .ok .nx ρ2
      | r => r
def forD (it : M (List D)) (tg : TgF) (body : MS) : MS := bindM it fun xs => forM tg body xs
theorem ds_for {tg iter : Expr} {body : List Stmt} {f : M (List D)} {js : List Nat} {t : TgF} {b : MS} (hp : PassesOwn (model X.prog X.w) X.A X.env X.xe) (hc : X.calm = true) (hi : DI X G W tg iter f) (hg : DGt X G tg js t) (hb : DSs X G W rm body b)
    (hs : ∀ x, foldedSetIterable iter X.env x = pure x := by intro _; rfl) : DS X G W rm (.For tg iter body [] pos) (forD f t b) :=
  ps_imp (ps_for hp hc hi hg hb hs) fun E σ H ⟨ρ, k, q⟩ => ⟨ρ, k, q.bind.mono fun xs ρ1 H1 _ s1 k1 q1 J io => by
    refine ⟨fun i m σ' H' => m = xs.length - i ∧ i ≤ xs.length ∧ Stable H1 H' ∧ ∃ ρ', StOk G σ' H' ρ' ∧ postS G W rm H' (forM t b (xs.drop i) ρ') E, ⟨_, rfl, Nat.zero_le _, Stable.rfl, ρ1, k1, q1⟩, ?_⟩
    rintro i m σ' H' ⟨rfl, hi, st, ρ', k', q'⟩
    by_cases hlt : i < xs.length
    · refine .inr ⟨io.go i H' st hlt, fun σ2 H2 => Stable H1 H2 ∧ ∃ ρ2, StOk G σ2 H2 ρ2 ∧ postS G W rm H2 (forM t b (xs.drop (i + 1)) ρ2) E, fun σ2 H2 ⟨w1, w2⟩ => ⟨xs.length - (i + 1), by omega, rfl, hlt, w1, w2⟩, fun v H2 y => ?_⟩
      obtain ⟨e, d, hd, rd⟩ := io.yld i H' v H2 st hlt y
      subst e
      have ed : xs.drop i = d :: xs.drop (i + 1) := by
        rw [List.drop_eq_getElem_cons hlt]
        rw [List.getElem?_eq_getElem hlt] at hd
        injection hd with hd
        rw [hd]
      rw [ed] at q'
      unfold forM at q'
      cases e1 : t d ρ' with
      | none => simp only [e1] at q'; exact q'.elim
      | some ρ2 =>
        simp only [e1] at q'
        refine ⟨ρ', d, ρ2, k', rd, e1, fun σ3 H3 _ s3 k3 => ⟨ρ2, k3, ?_⟩⟩
        cases e2 : b ρ2 with
        | ok fl ρ4 =>
          simp only [e2] at q'
          cases fl with
          | nx => exact fun σ5 H5 s5 k5 => ⟨st.trans (s3.trans s5), ρ4, k5, q'.from (s3.trans s5)⟩
          | ct => exact fun σ5 H5 s5 k5 => ⟨st.trans (s3.trans s5), ρ4, k5, q'.from (s3.trans s5)⟩
          | brk => exact fun σ5 H5 s5 k5 => q' σ5 H5 (s3.trans s5) k5
          | ret d => exact fun v σ5 H5 s5 k5 => q' v σ5 H5 (s3.trans s5) k5
        | exc c ρ4 =>
          simp only [e2] at q'
          exact fun σ5 C H5 e5 s5 k5 => q' σ5 C H5 e5 (s3.trans s5) k5
        | stuck => simp only [e2] at q'; exact q'.elim
    · have e : i = xs.length := by omega
      subst e
      rw [List.drop_length] at q'
      exact .inl ⟨io.stop _ H' st (Nat.le_refl _), q' σ' H' Stable.rfl k'⟩⟩

/-! ### while: n turns at most -/
def whileM (c : M Bool) (body : MS) : Nat → MS
  | 0 => fun _ => .stuck
  | n + 1 => bindM c fun b => match b with
    | false => skipM
    | true => fun ρ1 => match body ρ1 with
      | .ok .nx ρ2 => whileM c body n ρ2
      | .ok .ct ρ2 => whileM c body n ρ2
      | .ok .brk ρ2 => .ok .nx ρ2
      | r => r
theorem ds_while (n : Nat) {c : Expr} {body : List Stmt} {t : M Bool} {b : MS} (hp : PassesOwn (model X.prog X.w) X.A X.env X.xe) (hc : DT X G W c t) (hb : DSs X G W rm body b) : DS X G W rm (.While c body [] pos) (whileM t b n) :=
  ps_imp (ps_while hp hc hb) fun E σ H ⟨ρ, k, q⟩ => by
    refine ⟨fun m σ' H' => ∃ ρ', StOk G σ' H' ρ' ∧ postS G W rm H' (whileM t b m ρ') E, ⟨n, ρ, k, q⟩, ?_⟩
    rintro m σ' H' ⟨ρ', k', q'⟩
    cases m with
    | zero => exact q'.elim
    | succ m =>
      unfold whileM at q'
      refine ⟨ρ', k', q'.bind.mono fun c ρ1 H1 _ s1 k1 q1 => ?_⟩
      cases c with
      | false => rw [if_neg (by decide)]; exact q1 σ' H1 Stable.rfl k1
      | true =>
        rw [if_pos rfl]
        refine ⟨fun σ2 H2 => ∃ ρ2, StOk G σ2 H2 ρ2 ∧ postS G W rm H2 (whileM t b m ρ2) E, fun σ2 H2 w => ⟨m, by omega, w⟩, ρ1, k1, ?_⟩
        cases e2 : b ρ1 with
        | ok fl ρ4 =>
          simp only [e2] at q1
          cases fl with
          | nx => exact fun σ5 H5 s5 k5 => ⟨ρ4, k5, q1.from s5⟩
          | ct => exact fun σ5 H5 s5 k5 => ⟨ρ4, k5, q1.from s5⟩
          | brk => exact q1
          | ret d => exact q1
        | exc c ρ4 => simp only [e2] at q1; exact q1
        | stuck => simp only [e2] at q1; exact q1.elim

/-! ### raise -/
def raiseM (c : Str) : MS := fun ρ => .exc c ρ
theorem ds_raise {x z : Str} {j : Nat} {C : Addr} {p p2 pos2 : Pos} (hK : G.m = ⟨X.K, X.mg⟩) (hc : X.calm = true) (tk : Takes X W) (q : PySem.W.excIn X.K C He.veBase "ValueError.__new__" = true) (gC : X.mg x = some (.ref C)) (kC : PySem.W.keepIn X.K (.ref C) = true) (r : Raises X (.ref C)) (hg : Gl X x) (hdb : (x == ("__debug__" : Str)) = false := by decide) :
    DS X G W rm (.Raise (some (.Call (.Name x p) [.Constant (.str z) j p2] [] pos)) none pos2) (raiseM x) :=
  ps_imp (ps_raise hc tk (pmk_own PySem.F.excBase_ValueError q gC kC r hg hdb)) fun E σ H ⟨ρ, k, h⟩ => h σ C H (by rw [hK]; exact gC) Stable.rfl k
end
end DL
end
section
namespace DL
open PySem PySem.Spec L2
open PyProof.Rows hiding St

/-! ### slots forgotten and put back -/
def plain : Sl → Bool
  | .no => true
  | .d _ => true
  | _ => false
def plainB (vs : List Nat) (ρ : DL.Env) : Bool := vs.all fun v => plain (ρ.getD v .no)
def wipeE (ρ : DL.Env) : List Nat → DL.Env
  | [] => ρ
  | v :: vs => (wipeE ρ vs).set v .no
def restE (ρ ρ' : DL.Env) : List Nat → DL.Env
  | [] => ρ'
  | v :: vs => (restE ρ ρ' vs).set v (ρ.getD v .no)
theorem wipe_get (σ : L2.St) (j : Nat) : ∀ vs : List Nat, (wipe σ vs)[j]? = if j ∈ vs then (σ[j]?.map fun _ => none) else σ[j]?
  | [] => by simp [wipe]
  | v :: vs => by
    unfold wipe
    by_cases e : v = j
    · subst e
      rw [List.getElem?_set_self', wipe_get σ v vs]
      by_cases h : v ∈ vs <;> simp [h] <;> cases σ[v]? <;> rfl
    · rw [List.getElem?_set_ne e, wipe_get σ j vs]
      have e' : j ≠ v := fun z => e z.symm
      simp [e']
theorem wipeE_len (ρ : DL.Env) : ∀ vs : List Nat, (wipeE ρ vs).length = ρ.length
  | [] => rfl
  | v :: vs => by unfold wipeE; rw [List.length_set, wipeE_len ρ vs]
theorem wipeE_get (ρ : DL.Env) (j : Nat) : ∀ vs : List Nat, (wipeE ρ vs)[j]? = if j ∈ vs then (ρ[j]?.map fun _ => Sl.no) else ρ[j]?
  | [] => by simp [wipeE]
  | v :: vs => by
    unfold wipeE
    by_cases e : v = j
    · subst e
      rw [List.getElem?_set_self', wipeE_get ρ v vs]
      by_cases h : v ∈ vs <;> simp [h] <;> cases ρ[v]? <;> rfl
    · rw [List.getElem?_set_ne e, wipeE_get ρ j vs]
      have e' : j ≠ v := fun z => e z.symm
      simp [e']
theorem restE_len (ρ ρ' : DL.Env) : ∀ vs : List Nat, (restE ρ ρ' vs).length = ρ'.length
  | [] => rfl
  | v :: vs => by unfold restE; rw [List.length_set, restE_len ρ ρ' vs]
theorem restE_get (ρ ρ' : DL.Env) (hl : ρ.length = ρ'.length) (j : Nat) : ∀ vs : List Nat, (restE ρ ρ' vs)[j]? = if j ∈ vs then ρ[j]? else ρ'[j]?
  | [] => by simp [restE]
  | v :: vs => by
    unfold restE
    by_cases e : v = j
    · subst e
      by_cases hj : v < ρ.length
      · rw [List.getElem?_set_self (by rw [restE_len, ← hl]; exact hj)]
        simp [List.getD_eq_getElem?_getD, List.getElem?_eq_getElem hj]
      · rw [List.getElem?_eq_none (by rw [List.length_set, restE_len, ← hl]; omega)]
        simp [List.getElem?_eq_none (Nat.le_of_not_lt hj)]
    · rw [List.getElem?_set_ne e, restE_get ρ ρ' hl j vs]
      have e' : j ≠ v := fun z => e z.symm
      simp [e']
theorem plain_at {vs : List Nat} {ρ : DL.Env} (h : plainB vs ρ = true) {j : Nat} (hj : j ∈ vs) {s : Sl} (e : ρ[j]? = some s) : plain s = true := by
  have := List.all_eq_true.mp h j hj
  rw [List.getD_eq_getElem?_getD, e] at this
  exact this
theorem wipe_same {js vs : List Nat} {σ σ2 : L2.St} (hs : ∀ j ∈ js, j ∈ vs) (h : SameBut js (wipe σ vs) σ2) : wipe σ2 vs = wipe σ vs := by
  apply List.ext_getElem?
  intro j
  rw [wipe_get, wipe_get]
  by_cases hj : j ∈ vs
  · simp only [hj, if_true]
    have hl : σ2.length = σ.length := by rw [h.1, wipe_length]
    by_cases hlt : j < σ.length
    · rw [List.getElem?_eq_getElem hlt, List.getElem?_eq_getElem (by rw [hl]; exact hlt)]; rfl
    · rw [List.getElem?_eq_none (by omega), List.getElem?_eq_none (by omega)]
  · simp only [hj, if_false]
    have := h.2 j (fun z => hj (hs j z))
    rw [this, wipe_get]; simp [hj]
section
variable {G : Gh} {σ : L2.St} {H H' : Hp} {ρ ρ' : DL.Env} {vs : List Nat}
theorem StOk.wipe (k : StOk G σ H ρ) (hp : plainB vs ρ = true) : StOk G (L2.wipe σ vs) H (wipeE ρ vs) := by
  have nin : ∀ {j : Nat} {s : Sl}, (wipeE ρ vs)[j]? = some s → s ≠ .no → j ∉ vs ∧ ρ[j]? = some s := fun {j s} h hs => by
    rw [wipeE_get] at h
    by_cases hj : j ∈ vs
    · simp only [hj, if_true] at h
      cases e : ρ[j]? with
      | none => rw [e] at h; cases h
      | some t => rw [e] at h; simp at h; exact absurd h.symm hs
    · simp only [hj, if_false] at h; exact ⟨hj, h⟩
  have sg : ∀ {j : Nat}, j ∉ vs → (L2.wipe σ vs)[j]? = σ[j]? := fun {j} hj => by rw [wipe_get]; simp [hj]
  refine ⟨by rw [wipe_length, wipeE_len, k.len], fun i x h => ?_, fun i xs h => ?_, fun i j xs ys b ne h1 h2 h3 => ?_, fun p hpm => ?_, k.keep, fun i c h => ?_⟩
  · obtain ⟨n1, h⟩ := nin h (fun z => by cases z)
    rw [sg n1]; exact k.dat i x h
  · obtain ⟨n1, h⟩ := nin h (fun z => by cases z)
    rw [sg n1]; exact k.own i xs h
  · obtain ⟨n1, h1⟩ := nin h1 (fun z => by cases z)
    obtain ⟨n2, h2⟩ := nin h2 (fun z => by cases z)
    rw [sg n1] at h3
    rw [sg n2]; exact k.sep i j xs ys b ne h1 h2 h3
  · obtain ⟨q1, xs, q2⟩ := k.prot p hpm
    have n1 : p.1 ∉ vs := fun z => by have := plain_at hp z q2; simp [plain] at this
    exact ⟨by rw [sg n1]; exact q1, xs, by rw [wipeE_get]; simp [n1, q2]⟩
  · obtain ⟨n1, h⟩ := nin h (fun z => by cases z)
    rw [sg n1]; exact k.exn i c h
theorem StOk.rest (k : StOk G σ H ρ) (hp : plainB vs ρ = true) (st : Stable H H') (k' : StOk G (L2.wipe σ vs) H' ρ') : StOk G σ H' (restE ρ ρ' vs) := by
  have hl : ρ.length = ρ'.length := by rw [← k.len, ← k'.len, wipe_length]
  have sg : ∀ {j : Nat}, j ∉ vs → (L2.wipe σ vs)[j]? = σ[j]? := fun {j} hj => by rw [wipe_get]; simp [hj]
  have at_ : ∀ {j : Nat} {s : Sl}, (restE ρ ρ' vs)[j]? = some s → (j ∈ vs ∧ ρ[j]? = some s ∧ plain s = true) ∨ (j ∉ vs ∧ ρ'[j]? = some s) := fun {j s} h => by
    rw [restE_get ρ ρ' hl] at h
    by_cases hj : j ∈ vs
    · simp only [hj, if_true] at h; exact .inl ⟨hj, h, plain_at hp hj h⟩
    · simp only [hj, if_false] at h; exact .inr ⟨hj, h⟩
  refine ⟨by rw [restE_len, ← hl, k.len], fun i x h => ?_, fun i xs h => ?_, fun i j xs ys b ne h1 h2 h3 => ?_, fun p hpm => ?_, k'.keep, fun i c h => ?_⟩
  · rcases at_ h with ⟨_, h, _⟩ | ⟨n, h⟩
    · obtain ⟨v, h1, h2⟩ := k.dat i x h
      exact ⟨v, h1, h2.st st⟩
    · have := k'.dat i x h
      rw [sg n] at this; exact this
  · rcases at_ h with ⟨_, _, e⟩ | ⟨n, h⟩
    · simp [plain] at e
    · have := k'.own i xs h
      rw [sg n] at this; exact this
  · rcases at_ h1 with ⟨_, _, e⟩ | ⟨n1, h1⟩
    · simp [plain] at e
    rcases at_ h2 with ⟨_, _, e⟩ | ⟨n2, h2⟩
    · simp [plain] at e
    have := k'.sep i j xs ys b ne h1 h2 (by rw [sg n1]; exact h3)
    rw [sg n2] at this; exact this
  · obtain ⟨q1, xs, q2⟩ := k.prot p hpm
    obtain ⟨_, ys, q3⟩ := k'.prot p hpm
    have n1 : p.1 ∉ vs := fun z => by have := plain_at hp z q2; simp [plain] at this
    exact ⟨q1, ys, by rw [restE_get ρ ρ' hl]; simp [n1, q3]⟩
  · rcases at_ h with ⟨_, _, e⟩ | ⟨n, h⟩
    · simp [plain] at e
    · have := k'.exn i c h
      rw [sg n] at this; exact this
end
/-- a place more that stands as it stood -/
def Gh.add (G : Gh) (p : Addr) (o : HO) : Gh := { G with H0 := upd G.H0 p o }
section
variable {G : Gh} {σ : L2.St} {H H' : Hp} {ρ : DL.Env} {p : Addr} {o : HO}
theorem StOk.add (k : StOk G σ H ρ) (f : Fresh G σ ρ p) (h : H p = some o) : StOk (G.add p o) σ H ρ where
  len := k.len
  dat := k.dat
  own := fun i xs e => by
    obtain ⟨a, ws, h1, h2, h3, h4⟩ := k.own i xs e
    refine ⟨a, ws, h1, h2, h3, fun c => ⟨?_, (h4 c).2⟩⟩
    show L2.upd G.H0 p o a = none
    rw [upd_ne (fun z => f.2.2 i xs e (by rw [← z]; exact h1))]
    exact (h4 c).1
  sep := k.sep
  prot := k.prot
  keep := fun b u e n => by
    have e : L2.upd G.H0 p o b = some u := e
    by_cases z : b = p
    · subst z; rw [upd_same] at e; cases e; exact h
    · rw [upd_ne z] at e; exact k.keep b u e n
  exn := k.exn
theorem StOk.unadd (k : StOk (G.add p o) σ H ρ) (h0 : G.H0 p = none) (hp : ∀ q ∈ G.pr, q.2 ≠ p) : StOk G σ H ρ ∧ Fresh G σ ρ p ∧ H p = some o := by
  refine ⟨⟨k.len, k.dat, fun i xs e => ?_, k.sep, k.prot, fun b u e n => ?_, k.exn⟩, ⟨h0, hp, fun i xs e z => ?_⟩, ?_⟩
  · obtain ⟨a, ws, h1, h2, h3, h4⟩ := k.own i xs e
    refine ⟨a, ws, h1, h2, h3, fun c => ⟨?_, (h4 c).2⟩⟩
    have q : L2.upd G.H0 p o a = none := (h4 c).1
    by_cases z : a = p
    · subst z; exact h0
    · rw [upd_ne z] at q; exact q
  · have z : b ≠ p := fun z => by subst z; rw [h0] at e; cases e
    exact k.keep b u (by show L2.upd G.H0 p o b = some u; rw [upd_ne z]; exact e) n
  · obtain ⟨a, ws, h1, h2, h3, h4⟩ := k.own i xs e
    rw [z] at h1; cases h1
    by_cases c : ∀ q ∈ G.pr, q.1 ≠ i
    · have q : L2.upd G.H0 p o p = none := (h4 c).1
      rw [upd_same] at q; cases q
    · apply c
      intro q hq w
      obtain ⟨q1, _⟩ := k.prot q hq
      rw [w, z] at q1
      injection q1 with q1; injection q1 with q1; injection q1 with q1
      exact hp q hq q1.symm
  · exact k.keep p o (by show L2.upd G.H0 p o p = some o; rw [upd_same]) hp
theorem postG.reG {G' : Gh} {W : WX} {α : Type} {r : Res α} {Q : α → DL.Env → Hp → Prop} (hm : G'.m = G.m) (hk : ∀ H' ρ, StOk G' σ H' ρ → StOk G σ H' ρ) (h : postG G W σ H r Q) : postG G' W σ H r fun a ρ H' => Q a ρ H' ∧ StOk G' σ H' ρ := by
  cases r with
  | ok a ρ => exact fun H' s k => ⟨h H' s (hk H' ρ k), k⟩
  | exc c ρ => exact fun C H' e s k => h C H' (by rw [← hm]; exact e) s (hk H' ρ k)
  | stuck => exact h
end

/-! ### comprehensions -/
def DTs (X : Cx) (G : Gh) (W : WX) (ifs : List Expr) (f : M Bool) : Prop := PTs X ifs (tT G W f)
theorem pts_imp {X : Cx} {e : List Expr} {t t' : TT} (h : PTs X e t) (k : ∀ σ H Q, t' σ H Q → t σ H Q) : PTs X e t' := ⟨fun pins s σ H Q I q => h.run pins s σ H Q I (k σ H Q q)⟩
theorem dts_nil {X : Cx} {G : Gh} {W : WX} : DTs X G W [] (pureM true) := pts_imp pts_nil fun σ H Q ⟨ρ, k, q⟩ => q H Stable.rfl k
theorem dts_one {X : Cx} {G : Gh} {W : WX} {c : Expr} {f : M Bool} (h : DT X G W c f) : DTs X G W [c] f := pts_imp (pts_one h) fun σ H Q h => h
/-- one item: what becomes of the list made so far -/
def itemM (tt : M Bool) (te : M D) (acc : List D) : M (List D) := bindM tt fun b => match b with
  | false => pureM acc
  | true => bindM te fun y => if acc.length < sizeLine then pureM (acc ++ [y]) else stuckM
def compGo (tg : TgF) (tt : M Bool) (te : M D) (vs : List Nat) : List D → List D → M (List D)
  | acc, [] => pureM acc
  | acc, x :: xs => fun ρ => match tg x ρ with
    | none => .stuck
    | some ρ1 => match itemM tt te acc ρ1 with
      | .ok acc' ρ2 => if plainB vs ρ2 = true then compGo tg tt te vs acc' xs (wipeE ρ2 vs) else .stuck
      | _ => .stuck
def compO (it : M (List D)) (tg : TgF) (tt : M Bool) (te : M D) (vs : List Nat) : M (List D) := bindM it fun xs ρ => if plainB vs ρ = true then (match compGo tg tt te vs [] xs (wipeE ρ vs) with
  | .ok ys ρ' => .ok ys (restE ρ ρ' vs)
  | _ => .stuck) else .stuck
theorem Fresh.of {G : Gh} {σ σ' : L2.St} {ρ ρ' : DL.Env} {p : Addr} (f : Fresh G σ ρ p) (h : ∀ (i : Nat) (xs : List D), ρ'[i]? = some (.own xs) → σ'[i]? = some (some (.ref p)) → ∃ ys, ρ[i]? = some (.own ys) ∧ σ[i]? = some (some (.ref p))) : Fresh G σ' ρ' p :=
  ⟨f.1, f.2.1, fun i xs e z => by obtain ⟨ys, e1, e2⟩ := h i xs e z; exact f.2.2 i ys e1 e2⟩
theorem bindM_ok {α β : Type} {a : M α} {k : α → M β} {ρ ρ' : DL.Env} {y : β} (h : bindM a k ρ = .ok y ρ') : ∃ x ρ1, a ρ = .ok x ρ1 ∧ k x ρ1 = .ok y ρ' := by
  unfold bindM at h
  cases e : a ρ with
  | ok x ρ1 => rw [e] at h; exact ⟨x, ρ1, rfl, h⟩
  | exc c ρ1 => rw [e] at h; cases h
  | stuck => rw [e] at h; cases h
theorem itemM_inv {tt : M Bool} {te : M D} {acc acc' : List D} {ρ ρ' : DL.Env} (h : itemM tt te acc ρ = .ok acc' ρ') : ∃ b ρ1, tt ρ = .ok b ρ1 ∧ ((b = false ∧ acc' = acc ∧ ρ' = ρ1) ∨ (b = true ∧ ∃ y, te ρ1 = .ok y ρ' ∧ acc.length < sizeLine ∧ acc' = acc ++ [y])) := by
  obtain ⟨b, ρ1, e, h⟩ := bindM_ok h
  cases b with
  | false => cases h; exact ⟨false, _, e, .inl ⟨rfl, rfl, rfl⟩⟩
  | true =>
    obtain ⟨y, ρ2, e2, h⟩ := bindM_ok h
    by_cases hz : acc.length < sizeLine
    · simp only [hz, if_true] at h; cases h; exact ⟨true, ρ1, e, .inr ⟨rfl, y, e2, hz, rfl⟩⟩
    · simp only [hz, if_false] at h; cases h
section
variable {X : Cx} {G : Gh} {W : WX}
/-- the ghost context with another entry heap -/
abbrev Gh.at (G : Gh) (H : Hp) : Gh := ⟨G.m, H, G.pr, G.ex⟩
theorem lc_read {elt tg iter : Expr} {ifs : List Expr} {scope : Scope} {own : List (Str × Nat)} {fi : M (List D)} {js : List Nat} {t : TgF} {tt : M Bool} {te : M D} (hc : X.calm = true) (hN : X.N.Nodup) (hi : DI X G W tg iter fi) (ok : BlkOk X.N X.env.scope scope own) (hjs : js.all (fun j => (own.map (·.2)).contains j) = true)
    (hg : ∀ (h : Hp) (s : Shared) (H : Hp) (C : Addr) (cl : List (Str × Addr)) (fp : List Addr), DGt (X.blk s H scope (compEnvC scope cl C X.env) fp) (G.at h) tg js t)
    (ht : ∀ (h : Hp) (s : Shared) (H : Hp) (C : Addr) (cl : List (Str × Addr)) (fp : List Addr), DTs (X.blk s H scope (compEnvC scope cl C X.env) fp) (G.at h) W0 ifs tt)
    (he : ∀ (h : Hp) (s : Shared) (H : Hp) (C : Addr) (cl : List (Str × Addr)) (fp : List Addr), DE (X.blk s H scope (compEnvC scope cl C X.env) fp) (G.at h) W0 elt te) :
    ∃ wi g tt' te', PI X tg iter wi ∧ (∀ (s : Shared) (H : Hp) (C : Addr) (cl : List (Str × Addr)) (fp : List Addr), PG (X.blk s H scope (compEnvC scope cl C X.env) fp) tg g) ∧ (∀ (s : Shared) (H : Hp) (C : Addr) (cl : List (Str × Addr)) (fp : List Addr), PTs (X.blk s H scope (compEnvC scope cl C X.env) fp) ifs tt') ∧
      (∀ (s : Shared) (H : Hp) (C : Addr) (cl : List (Str × Addr)) (fp : List Addr), PE (X.blk s H scope (compEnvC scope cl C X.env) fp) elt te') ∧ ∀ σ H Q, oT G W (compO fi t tt te (own.map (·.2))) σ H Q → tLc wi g tt' te' (own.map (·.2)) σ H Q := by
  have hjs' : ∀ j ∈ js, j ∈ own.map (·.2) := fun j hj => by simpa using List.all_eq_true.mp hjs j hj
  generalize hvs : own.map (·.2) = vs at hjs'
  refine ⟨_, fun v σ H Q => ∃ h, tgT (G.at h) js t v σ H Q, fun σ H Q => ∃ h, tT (G.at h) W0 tt σ H Q, fun σ H Q => ∃ h, dT (G.at h) W0 te σ H Q, hi,
    (fun s H C cl fp => ⟨fun pins s' σ H' v u Q I r ⟨h, q⟩ => (hg h s H C cl fp).run pins s' σ H' v u Q I r q⟩),
    (fun s H C cl fp => ⟨fun pins s' σ H' Q I ⟨h, q⟩ => (ht h s H C cl fp).run pins s' σ H' Q I q⟩),
    (fun s H C cl fp => ⟨fun pins s' σ H' Q I ⟨h, q⟩ => (he h s H C cl fp).run pins s' σ H' Q I q⟩), fun σ H Q ⟨ρ, k, q⟩ => ?_⟩
  refine ⟨ρ, k, q.bind.mono fun xs ρ1 H1 _ s1 k1 q1 J io => fun Dn hD => ?_⟩
  by_cases hpl : plainB vs ρ1 = true
  · simp only [hpl, if_true] at q1
    have gr := Grow.new (o := .lst []) hD
    have k2 := (k1.grow gr).wipe hpl
    have fr : Fresh G σ ρ1 Dn := k1.fresh hD
    have sgw : ∀ {j : Nat}, j ∉ vs → (L2.wipe σ vs)[j]? = σ[j]? := fun {j} hj => by rw [wipe_get]; simp [hj]
    refine ⟨fun i n H' => n = xs.length - i ∧ i ≤ xs.length ∧ Stable H1 H' ∧ ∃ ρ' acc ws, StOk G (L2.wipe σ vs) H' ρ' ∧ Fresh G (L2.wipe σ vs) ρ' Dn ∧ H' Dn = some (.lst ws) ∧ RepL G.m H' ws acc ∧ (∀ j ∈ vs, ∀ us, ρ'[j]? ≠ some (.own us)) ∧
        postG G W σ H1 (match compGo t tt te vs acc (xs.drop i) ρ' with | .ok ys ρ' => .ok ys (restE ρ1 ρ' vs) | _ => .stuck) (fun ds ρ' H' => ∀ a vs, H' a = some (.lst vs) → RepL G.m H' vs ds → Fresh G σ ρ' a → Q (.ref a) H'), ⟨_, rfl, Nat.zero_le _, gr.stable, _, [], [], k2, ?_, upd_same, .nil, ?_, ?_⟩, ?_⟩
    · refine fr.of fun i us h z => ?_
      rw [wipeE_get] at h
      by_cases hj : i ∈ vs
      · simp only [hj, if_true] at h
        cases e : ρ1[i]? <;> rw [e] at h <;> simp at h
      · simp only [hj, if_false] at h
        exact ⟨us, h, by rw [← sgw hj]; exact z⟩
    · intro j hj us h
      rw [wipeE_get] at h
      simp only [hj, if_true] at h
      cases e : ρ1[j]? <;> rw [e] at h <;> simp at h
    · rw [List.drop_zero]; exact q1
    · rintro i n H' ⟨rfl, hi', st, ρ', acc, ws, kk, fr', hDn, rl, nov, qq⟩
      by_cases hlt : i < xs.length
      · refine .inr ⟨io.go i H' st hlt, fun H2 => Stable H1 H2 ∧ ∃ ρ' acc ws, StOk G (L2.wipe σ vs) H2 ρ' ∧ Fresh G (L2.wipe σ vs) ρ' Dn ∧ H2 Dn = some (.lst ws) ∧ RepL G.m H2 ws acc ∧ (∀ j ∈ vs, ∀ us, ρ'[j]? ≠ some (.own us)) ∧
          postG G W σ H1 (match compGo t tt te vs acc (xs.drop (i + 1)) ρ' with | .ok ys ρ' => .ok ys (restE ρ1 ρ' vs) | _ => .stuck) (fun ds ρ' H' => ∀ a vs, H' a = some (.lst vs) → RepL G.m H' vs ds → Fresh G σ ρ' a → Q (.ref a) H'), fun H2 w => ⟨xs.length - (i + 1), by omega, rfl, hlt, w⟩, fun v H2 y => ?_⟩
        obtain ⟨e, d, hd, rd⟩ := io.yld i H' v H2 st hlt y
        rw [e]
        have ed : xs.drop i = d :: xs.drop (i + 1) := by
          rw [List.drop_eq_getElem_cons hlt]
          rw [List.getElem?_eq_getElem hlt] at hd
          injection hd with hd
          rw [hd]
        rw [ed] at qq
        unfold compGo at qq
        cases e1 : t d ρ' with
        | none => simp only [e1] at qq; exact qq.elim
        | some ρ2 =>
          simp only [e1] at qq
          cases e2 : itemM tt te acc ρ2 with
          | exc c ρ3 => simp only [e2] at qq; exact qq.elim
          | stuck => simp only [e2] at qq; exact qq.elim
          | ok acc' ρ3 =>
            simp only [e2] at qq
            by_cases hp3 : plainB vs ρ3 = true
            · simp only [hp3, if_true] at qq
              refine ⟨(G.add Dn (.lst ws)).H0, ρ', d, ρ2, kk.add fr' hDn, rd, e1, fun σ2 H2 sb s2 k2' => ?_⟩
              have ws2 := wipe_same hjs' sb
              obtain ⟨b, ρ4, e3, e4⟩ := itemM_inv e2
              have novw : ∀ j ∈ vs, ∀ us, (wipeE ρ3 vs)[j]? ≠ some (.own us) := fun j hj us h => by
                rw [wipeE_get] at h
                simp only [hj, if_true] at h
                cases e : ρ3[j]? <;> rw [e] at h <;> simp at h
              have frw : ∀ {H5 : Hp}, Fresh G σ2 ρ3 Dn → Fresh G (L2.wipe σ vs) (wipeE ρ3 vs) Dn := fun {H5} f => by
                rw [← ws2]
                refine f.of fun i us h z => ?_
                rw [wipeE_get] at h
                by_cases hj : i ∈ vs
                · simp only [hj, if_true] at h
                  cases e : ρ3[i]? <;> rw [e] at h <;> simp at h
                · simp only [hj, if_false] at h
                  exact ⟨us, h, (wipe_some z).1⟩
              refine ⟨ws2, (G.add Dn (.lst ws)).H0, ρ2, k2', ?_⟩
              rw [e3]
              intro H3 s3 k3
              rcases e4 with ⟨rfl, rfl, rfl⟩ | ⟨rfl, yv, e5, hz, rfl⟩
              · rw [if_neg (by decide)]
                obtain ⟨k4, f4, h4⟩ := k3.unadd fr.1 fr.2.1
                have k5 := k4.wipe hp3
                rw [ws2] at k5
                exact ⟨st.trans (s2.trans s3), _, _, ws, k5, frw (H5 := H3) f4, h4, rl.st (s2.trans s3), novw, qq⟩
              · rw [if_pos rfl]
                refine ⟨(G.add Dn (.lst ws)).H0, ρ4, k3, ?_⟩
                rw [e5]
                intro H4 s4 k4 v4 r4
                obtain ⟨k5, f5, h5⟩ := k4.unadd fr.1 fr.2.1
                have su : Stable H4 (upd H4 Dn (.lst (ws ++ [v4]))) := Stable.upd h5 trivial
                have k6 := (k5.upd (o := .lst (ws ++ [v4])) f5 fun u hu => nfix_of h5 trivial hu).wipe hp3
                rw [ws2] at k6
                have s4' : Stable H' H4 := s2.trans (s3.trans s4)
                exact ⟨ws, h5, by rw [rl.len]; exact hz, st.trans (s4'.trans su), _, _, _, k6, frw (H5 := H4) f5, upd_same, (rl.st (s4'.trans su)).append (.cons (r4.st su) .nil), novw, qq⟩
            · simp only [hp3] at qq; exact qq.elim
      · have e : i = xs.length := by omega
        subst e
        rw [List.drop_length] at qq
        refine .inl ⟨io.stop _ H' st (Nat.le_refl _), ?_⟩
        have hl : ρ1.length = ρ'.length := by rw [← k1.len, ← kk.len, wipe_length]
        refine qq H' st (k1.rest hpl st kk) Dn ws hDn rl (fr'.of fun i us h z => ?_)
        rw [restE_get ρ1 ρ' hl] at h
        by_cases hj : i ∈ vs
        · simp only [hj, if_true] at h
          have := plain_at hpl hj h
          simp [plain] at this
        · simp only [hj, if_false] at h
          exact ⟨us, h, by rw [sgw hj]; exact z⟩
  · simp only [hpl] at q1; exact q1.elim
theorem do_lc {elt tg iter : Expr} {ifs : List Expr} {scope : Scope} {own : List (Str × Nat)} {pos : Pos} {fi : M (List D)} {js : List Nat} {t : TgF} {tt : M Bool} {te : M D} (hc : X.calm = true) (hN : X.N.Nodup) (hi : DI X G W tg iter fi) (ok : BlkOk X.N X.env.scope scope own) {vs : List Nat} (hvs : own.map (·.2) = vs) (hjs : js.all (fun j => (own.map (·.2)).contains j) = true)
    (hg : ∀ (h : Hp) (s : Shared) (H : Hp) (C : Addr) (cl : List (Str × Addr)) (fp : List Addr), DGt (X.blk s H scope (compEnvC scope cl C X.env) fp) (G.at h) tg js t)
    (ht : ∀ (h : Hp) (s : Shared) (H : Hp) (C : Addr) (cl : List (Str × Addr)) (fp : List Addr), DTs (X.blk s H scope (compEnvC scope cl C X.env) fp) (G.at h) W0 ifs tt)
    (he : ∀ (h : Hp) (s : Shared) (H : Hp) (C : Addr) (cl : List (Str × Addr)) (fp : List Addr), DE (X.blk s H scope (compEnvC scope cl C X.env) fp) (G.at h) W0 elt te) (hs : ∀ x, foldedSetIterable iter X.env x = pure x := by intro _; rfl) :
    DO X G W (.ListComp elt [⟨tg, iter, ifs, 0⟩] scope pos) (compO fi t tt te vs) := by
  subst hvs
  obtain ⟨wi, g, tt', te', h1, h2, h3, h4, h5⟩ := lc_read hc hN hi ok hjs hg ht he
  exact pe_imp (pe_lc hc hN h1 ok h2 h3 h4 hs) h5
/-- name = [..] -/
theorem ds_setLc (i : Nat) {rm : Bool} {y : Str} {py : Pos} {elt tg iter : Expr} {ifs : List Expr} {scope : Scope} {own : List (Str × Nat)} {pos spos : Pos} {fi : M (List D)} {js : List Nat} {t : TgF} {tt : M Bool} {te : M D} (hp : pfree G i) (hc : X.calm = true) (hN : X.N.Nodup) (hy : X.N[i]? = some y) (hyl : X.env.scope.names.lookup y = some .local)
    (hsw : swapsWith (.ListComp elt [⟨tg, iter, ifs, 0⟩] scope pos) (some (.Name y py)) spos.line X.env = pure true) (hi : DI X G W tg iter fi) (ok : BlkOk X.N X.env.scope scope own) {vs : List Nat} (hvs : own.map (·.2) = vs) (hjs : js.all (fun j => (own.map (·.2)).contains j) = true)
    (hg : ∀ (h : Hp) (s : Shared) (H : Hp) (C : Addr) (cl : List (Str × Addr)) (fp : List Addr), DGt (X.blk s H scope (compEnvC scope cl C X.env) fp) (G.at h) tg js t)
    (ht : ∀ (h : Hp) (s : Shared) (H : Hp) (C : Addr) (cl : List (Str × Addr)) (fp : List Addr), DTs (X.blk s H scope (compEnvC scope cl C X.env) fp) (G.at h) W0 ifs tt)
    (he : ∀ (h : Hp) (s : Shared) (H : Hp) (C : Addr) (cl : List (Str × Addr)) (fp : List Addr), DE (X.blk s H scope (compEnvC scope cl C X.env) fp) (G.at h) W0 elt te) (hs : ∀ x, foldedSetIterable iter X.env x = pure x := by intro _; rfl) :
    DS X G W rm (.Assign [.Name y py] (.ListComp elt [⟨tg, iter, ifs, 0⟩] scope pos) spos) (setOM i (compO fi t tt te vs)) := by
  subst hvs
  obtain ⟨wi, g, tt', te', h1, h2, h3, h4, h5⟩ := lc_read hc hN hi ok hjs hg ht he
  exact ps_imp (ps_setLc hc hN hy hyl hsw h1 ok h2 h3 h4 hs) fun E σ H ⟨ρ, k, q⟩ => h5 σ H _ ⟨ρ, k, q.bind.mono fun ds ρ1 H1 _ s1 k1 q1 a vs ha r f => q1 _ H1 Stable.rfl (k1.setO hp ha r f)⟩
end
end DL
end
section
namespace DL
open PySem PySem.Spec L2
open PyProof.Rows hiding St

/-! ### data as the library's data -/
mutual
def toPy : D → PyData
  | .non => .none
  | .bl b => .bool b
  | .int i => .int i
  | .str s => .str s
  | .lst xs => .list (toPyL xs)
  | .tup xs => .tuple (toPyL xs)
  | .dic _ _ => .dict []
  | .ins _ _ _ => .dict []
def toPyL : List D → List PyData
  | [] => []
  | x :: xs => toPy x :: toPyL xs
end
section
variable {m : Md} {H : Hp}
mutual
theorem Rep.dp : ∀ {d : D} {v : V}, Rep m H v d → (toPy d).canLay0 = true → Dp m.K H v (toPy d)
  | .non, _, h, _ => by cases h; exact .non
  | .bl b, _, h, _ => by cases h; exact .bl b
  | .int i, _, h, _ => by cases h; exact .int i
  | .str x, _, h, _ => by cases h; exact .str x
  | .lst ds, _, h, c => by
    cases h with
    | lst q r => exact .lst q.sq (RepL.dp r c)
  | .tup ds, _, h, c => by
    cases h with
    | tup q r => exact .tup q (RepL.dp r c)
  | .dic _ _, _, _, c => by simp [toPy, PyData.canLay0] at c
  | .ins _ _ _, _, _, c => by simp [toPy, PyData.canLay0] at c
theorem RepL.dp : ∀ {ds : List D} {vs : List V}, RepL m H vs ds → PyData.canLayAll0 (toPyL ds) = true → DpAll m.K H vs (toPyL ds)
  | [], _, h, _ => by cases h; exact .nil
  | d :: ds, _, h, c => by
    cases h with
    | cons a b =>
      have c : ((toPy d).canLay0 && PyData.canLayAll0 (toPyL ds)) = true := by simpa [toPyL, PyData.canLayAll0] using c
      rw [Bool.and_eq_true] at c
      exact .cons (Rep.dp a c.1) (RepL.dp b c.2)
end
end
def okD (d : D) : Bool := SeqAt.shaped (toPy d)
def eqvD (a b : D) : Bool := PyData.eqv (toPy a) (toPy b)
def eqD (a b : D) : Option D := if (okD a && okD b) = true then some (.bl (eqvD a b)) else none
def neD (a b : D) : Option D := if (okD a && okD b) = true then some (.bl (!eqvD a b)) else none
section
variable {m : Md}
theorem opd_eq : OpD m (rEqD m.K) eqD := fun x y dx dy d H Q rx ry e h => by
  unfold eqD at e
  split at e
  · rename_i c
    rw [Bool.and_eq_true] at c
    cases e
    exact ⟨toPy dx, toPy dy, rx.dp (SeqAt.canLay_of_shaped c.1), ry.dp (SeqAt.canLay_of_shaped c.2), c.1, c.2, h _ H Grow.rfl (.bl _)⟩
  · cases e
theorem opd_ne : OpD m (rNeD m.K) neD := fun x y dx dy d H Q rx ry e h => by
  unfold neD at e
  split at e
  · rename_i c
    rw [Bool.and_eq_true] at c
    cases e
    exact ⟨toPy dx, toPy dy, rx.dp (SeqAt.canLay_of_shaped c.1), ry.dp (SeqAt.canLay_of_shaped c.2), c.1, c.2, h _ H Grow.rfl (.bl _)⟩
  · cases e
/-! ### whole numbers -/
def intD (f : Int → Int → Option D) : D → D → Option D
  | .int i, .int j => f i j
  | _, _ => none
theorem opd_i0 {g : Int → Int → V} {f : Int → Int → D} (h : ∀ i j H, Rep m H (g i j) (f i j)) : OpD m (rI0 g) (intD fun i j => some (f i j)) := fun x y dx dy d H Q rx ry e k => by
  cases rx <;> cases ry <;> first | (cases e; exact ⟨_, _, rfl, rfl, k _ H Grow.rfl (h _ _ H)⟩) | cases e
theorem opd_iC {C : Int → Int → Prop} [∀ i j, Decidable (C i j)] {g : Int → Int → V} {f : Int → Int → D} (h : ∀ i j H, Rep m H (g i j) (f i j)) : OpD m (rI C g) (intD fun i j => if C i j then some (f i j) else none) := fun x y dx dy d H Q rx ry e k => by
  cases rx with
  | int i =>
    cases ry with
    | int j =>
      have e : (if C i j then some (f i j) else none) = some d := e
      by_cases c : C i j
      · rw [if_pos c] at e; cases e; exact ⟨i, j, rfl, rfl, c, k _ H Grow.rfl (h _ _ H)⟩
      · rw [if_neg c] at e; cases e
    | _ => cases e
  | _ => cases e
def subD : D → D → Option D := intD fun i j => some (.int (i - j))
instance (i j : Int) : Decidable (CMul i j) := by unfold CMul; infer_instance
instance (i j : Int) : Decidable (CDiv i j) := by unfold CDiv; infer_instance
instance (i j : Int) : Decidable (CPow i j) := by unfold CPow; infer_instance
def mulD : D → D → Option D := intD fun i j => if CMul i j then some (.int (i * j)) else none
def divD : D → D → Option D := intD fun i j => if CDiv i j then some (.int (i / j)) else none
def modD : D → D → Option D := intD fun i j => if 0 < j then some (.int (i % j)) else none
def powD : D → D → Option D := intD fun i j => if CPow i j then some (.int (i ^ j.toNat)) else none
def ltD : D → D → Option D := intD fun i j => some (.bl (decide (i < j)))
def leD : D → D → Option D := intD fun i j => some (.bl (decide (i ≤ j)))
def gtD : D → D → Option D := intD fun i j => some (.bl (decide (j < i)))
def geD : D → D → Option D := intD fun i j => some (.bl (decide (j ≤ i)))
theorem opd_sub : OpD m (rI0 fun i j => .int (i - j)) subD := opd_i0 fun _ _ _ => .int _
theorem opd_mul : OpD m (rI CMul fun i j => .int (i * j)) mulD := opd_iC fun _ _ _ => .int _
theorem opd_div : OpD m (rI CDiv fun i j => .int (i / j)) divD := opd_iC fun _ _ _ => .int _
theorem opd_mod : OpD m (rI (fun _ j => 0 < j) fun i j => .int (i % j)) modD := opd_iC (C := fun _ j => 0 < j) fun _ _ _ => .int _
theorem opd_pow : OpD m (rI CPow fun i j => .int (i ^ j.toNat)) powD := opd_iC fun _ _ _ => .int _
theorem opd_lt : OpD m (rI0 fun i j => .bl (decide (i < j))) ltD := opd_i0 fun _ _ _ => .bl _
theorem opd_le : OpD m (rI0 fun i j => .bl (decide (i ≤ j))) leD := opd_i0 fun _ _ _ => .bl _
theorem opd_gt : OpD m (rI0 fun i j => .bl (decide (j < i))) gtD := opd_i0 fun _ _ _ => .bl _
theorem opd_ge : OpD m (rI0 fun i j => .bl (decide (j ≤ i))) geD := opd_i0 fun _ _ _ => .bl _
theorem OpD.or {r r' : R2} {g g' : D → D → Option D} (h : OpD m r g) (h' : OpD m r' g') : OpD m (fun x y H Q => r x y H Q ∨ r' x y H Q) (fun a b => (g a b).or (g' a b)) := fun x y dx dy d H Q rx ry e k => by
  have e : (g dx dy).or (g' dx dy) = some d := e
  cases q : g dx dy with
  | some z =>
    rw [q] at e; cases e
    exact .inl (h x y dx dy _ H Q rx ry q k)
  | none =>
    rw [q] at e
    exact .inr (h' x y dx dy d H Q rx ry e k)
/-! ### + -/
def rCatF (K : PySem.W.Frag) : R2 := fun x y H Q => ∃ a b xs zs, x = .ref a ∧ y = .ref b ∧ SqF K H a xs ∧ SqF K H b zs ∧ xs.length + zs.length ≤ sizeLine ∧ ∀ p, H p = none → ∀ o, Q (.ref p) (upd H p (.frz o (.lst (xs ++ zs))))
theorem isL_of {X : Cx} {pins : List (Addr × Obj)} {σ : L2.St} {H : Hp} {s : Shared} {a : Addr} {xs : List V} (I : Inv X pins σ H s) (h : SqF X.K H a xs) : ∃ (its : List Value) (n : Nat), Vals xs its ∧ IsL s.heap a its.toArray n := by
  rcases h with ⟨o, h⟩ | ⟨its, n, h1, h2, h3⟩
  · obtain ⟨_, _, its, n, r, e⟩ := (show ObjOk X.prog X.w H s.heap a (.frz o (.lst xs)) from I.hok a _ h)
    exact ⟨its, n, r, e⟩
  · exact ⟨its.toList, n, h3, by simpa using I.kIn a _ h1⟩
theorem op_catF {X : Cx} : OpR X (binaryOp .Add) (rCatF X.K) := by
  intro pins s σ H x y v u Q I rx ry ⟨a, b, xs, zs, ex, ey, ha, hb, hz, q⟩
  subst ex; subst ey
  cases rx; cases ry
  obtain ⟨i1, n1, r1, e1⟩ := isL_of I ha
  obtain ⟨i2, n2, r2, e2⟩ := isL_of I hb
  have hl : i1.toArray.size + i2.toArray.size ≤ sizeLine := by
    have := r1.length; have := r2.length
    simp only [List.size_toArray]; omega
  refine PySem.P.add_list e1 e2 ?_ hl
  have J := I.lnew (t' := s.toks) (r1.append r2) (by rw [List.length_append]; exact hz)
  have ea : i1.toArray ++ i2.toArray = (i1 ++ i2).toArray := by simp
  rw [ea]
  obtain ⟨od, J2⟩ := J.lock upd_same trivial
  have q2 := q _ I.fresh od
  have eu : upd (upd H s.heap.objs.size (.lst (xs ++ zs))) s.heap.objs.size (.frz od (.lst (xs ++ zs))) = upd H s.heap.objs.size (.frz od (.lst (xs ++ zs))) := upd_upd
  rw [eu] at J2
  exact ⟨.ref _, _, J2, rfl, q2⟩
def rAdd (K : PySem.W.Frag) : R2 := fun x y H Q => (rI0 fun i j => .int (i + j)) x y H Q ∨ ((fun x y H Q => ∃ i j, x = .str i ∧ y = .str j ∧ i.length + j.length ≤ sizeLine ∧ Q (.str (i ++ j)) H) x y H Q ∨ (rCatF K x y H Q ∨ rCatT K x y H Q))
theorem op_addU {X : Cx} : OpR X (binaryOp .Add) (rAdd X.K) := op_add.or (op_add_str.or (op_catF.or op_catT))
def addD : D → D → Option D
  | .int i, .int j => some (.int (i + j))
  | .str i, .str j => if i.length + j.length ≤ sizeLine then some (.str (i ++ j)) else none
  | .lst xs, .lst ys => if xs.length + ys.length ≤ sizeLine then some (.lst (xs ++ ys)) else none
  | .tup xs, .tup ys => if xs.length + ys.length ≤ sizeLine ∧ xs ≠ [] then some (.tup (xs ++ ys)) else none
  | _, _ => none
theorem opd_add : OpD m (rAdd m.K) addD := fun x y dx dy d H Q rx ry e k => by
  cases rx with
  | int i =>
    cases ry with
    | int j => cases e; exact .inl ⟨i, j, rfl, rfl, k _ H Grow.rfl (.int _)⟩
    | _ => cases e
  | str i =>
    cases ry with
    | str j =>
      have e : (if i.length + j.length ≤ sizeLine then some (D.str (i ++ j)) else none) = some d := e
      by_cases c : i.length + j.length ≤ sizeLine
      · rw [if_pos c] at e; cases e; exact .inr (.inl ⟨i, j, rfl, rfl, c, k _ H Grow.rfl (.str _)⟩)
      · rw [if_neg c] at e; cases e
    | _ => cases e
  | @lst _ v1 xs qa ra =>
    cases ry with
    | @lst _ v2 ys qb rb =>
      have e : (if xs.length + ys.length ≤ sizeLine then some (D.lst (xs ++ ys)) else none) = some d := e
      by_cases c : xs.length + ys.length ≤ sizeLine
      · rw [if_pos c] at e
        cases e
        refine .inr (.inr (.inl ⟨_, _, _, _, rfl, rfl, qa, qb, by rw [ra.len, rb.len]; exact c, fun p hp o => ?_⟩))
        have g := Grow.new (o := .frz o (.lst (v1 ++ v2))) hp
        exact k _ _ g (.lst (.inl ⟨o, upd_same⟩) ((ra.st g.stable).append (rb.st g.stable)))
      · rw [if_neg c] at e; cases e
    | _ => cases e
  | @tup _ v1 xs qa ra =>
    cases ry with
    | @tup _ v2 ys qb rb =>
      have e : (if xs.length + ys.length ≤ sizeLine ∧ xs ≠ [] then some (D.tup (xs ++ ys)) else none) = some d := e
      by_cases c : xs.length + ys.length ≤ sizeLine ∧ xs ≠ []
      · rw [if_pos c] at e
        cases e
        have ne : ∀ {vs : List V} {ds : List D}, RepL m H vs ds → (vs = [] ↔ ds = []) := fun r => by
          cases r <;> simp
        refine .inr (.inr (.inr ⟨_, _, _, _, rfl, rfl, qa, qb, fun z => c.2 ((ne ra).mp z), by rw [ra.len, rb.len]; exact c.1, fun z => ?_, fun _ p hp => ?_⟩))
        · have z' := (ne rb).mp z
          subst z'
          rw [List.append_nil] at k
          exact k _ H Grow.rfl (.tup qa ra)
        · have g := Grow.new (o := .tup (v1 ++ v2)) hp
          exact k _ _ g (.tup (SqT.of upd_same) ((ra.st g.stable).append (rb.st g.stable)))
      · rw [if_neg c] at e; cases e
    | _ => cases e
  | _ => cases e
/-! ### places -/
def ixD (x i : D) : Option D := match x, i with
  | .lst xs, .int i => atI xs i
  | .tup xs, .int i => atI xs i
  | .str z, .int i => if z.length ≤ sizeLine then (atI z.cps.toList i).map fun c => .str ⟨#[c]⟩ else none
  | _, _ => none
theorem atI_rep {H : Hp} {vs : List V} {ds : List D} {i : Int} {d : D} (r : RepL m H vs ds) (h : atI ds i = some d) : ∃ v, atI vs i = some v ∧ Rep m H v d := by
  unfold atI at h ⊢
  rw [r.len]
  cases e : ixN ds.length i with
  | none => rw [e] at h; cases h
  | some j =>
    rw [e] at h
    obtain ⟨v, h1, h2⟩ := r.get (show ds[j]? = some d from h)
    exact ⟨v, h1, h2⟩
theorem opd_ix : OpD m (rIx m.K) ixD := fun x y dx dy d H Q rx ry e k => by
  cases rx with
  | lst qa ra =>
    cases ry with
    | int i =>
      obtain ⟨v, h1, h2⟩ := atI_rep ra e
      exact .inl ⟨_, _, i, v, rfl, rfl, qa.sq, h1, k v H Grow.rfl h2⟩
    | _ => cases e
  | tup qa ra =>
    cases ry with
    | int i =>
      obtain ⟨v, h1, h2⟩ := atI_rep ra e
      exact .inr (.inl ⟨_, _, i, v, rfl, rfl, qa, h1, k v H Grow.rfl h2⟩)
    | _ => cases e
  | str z =>
    cases ry with
    | int i =>
      unfold ixD at e
      by_cases c : z.length ≤ sizeLine
      · simp only [c, if_true] at e
        cases q : atI z.cps.toList i with
        | none => rw [q] at e; cases e
        | some w =>
          rw [q] at e; cases e
          exact .inr (.inr ⟨z, i, w, rfl, rfl, c, q, k _ H Grow.rfl (.str _)⟩)
      · simp only [c, if_false] at e; cases e
    | _ => cases e
  | _ => cases e
def ixO (xs : List D) (i : D) : Option D := match i with
  | .int i => atI xs i
  | _ => none
theorem opo_ix : OpO m (rIx m.K) ixO := fun a vs y xs dy d H Q ha r ry e k => by
  cases ry with
  | int i =>
    obtain ⟨v, h1, h2⟩ := atI_rep r e
    exact .inl ⟨_, _, i, v, rfl, rfl, SqL.of ha, h1, k v H Grow.rfl h2⟩
  | _ => cases e
/-! ### builtins -/
def lenD : List D → Option D
  | [.lst xs] => some (.int xs.length)
  | [.tup xs] => some (.int xs.length)
  | [.str z] => if z.length ≤ sizeLine then some (.int z.length) else none
  | _ => none
theorem one_of {H : Hp} {vs : List V} {d : D} (r : RepL m H vs [d]) : ∃ v, vs = [v] ∧ Rep m H v d := by
  cases r with
  | cons a b => cases b; exact ⟨_, rfl, a⟩
theorem two_of {H : Hp} {vs : List V} {d e : D} (r : RepL m H vs [d, e]) : ∃ v w, vs = [v, w] ∧ Rep m H v d ∧ Rep m H w e := by
  cases r with
  | cons a b =>
    cases b with
    | cons b c => cases c; exact ⟨_, _, rfl, a, b⟩
theorem cd_len : CallD m (fun xs H Q => ∃ x n, xs = [x] ∧ LenV m.K x H n ∧ Q (.int n) H) lenD := fun vs ds d H Q r e k => by
  unfold lenD at e
  split at e
  · obtain ⟨v, rfl, rv⟩ := one_of r
    cases e
    cases rv with
    | lst q rl => exact ⟨_, _, rfl, .inl ⟨_, q.sq, rl.len.symm⟩, k _ H Grow.rfl (.int _)⟩
  · obtain ⟨v, rfl, rv⟩ := one_of r
    cases e
    cases rv with
    | tup q rl => exact ⟨_, _, rfl, .inr ⟨_, q, rl.len.symm⟩, k _ H Grow.rfl (.int _)⟩
  · obtain ⟨v, rfl, rv⟩ := one_of r
    split at e
    · rename_i c
      cases e
      cases rv
      exact ⟨_, _, rfl, ⟨c, rfl⟩, k _ H Grow.rfl (.int _)⟩
    · cases e
  · cases e
def intsOf : List D → Option (List Int)
  | [] => some []
  | .int i :: r => (intsOf r).map (i :: ·)
  | _ => none
theorem ints_rep {H : Hp} : ∀ {ds : List D} {vs : List V} {ns : List Int}, RepL m H vs ds → intsOf ds = some ns → vs = ns.map V.int
  | [], vs, ns, r, e => by cases e; cases r; rfl
  | d :: ds, vs, ns, r, e => by
    cases r with
    | cons a b =>
      cases a with
      | int i =>
        unfold intsOf at e
        cases q : intsOf ds with
        | none => rw [q] at e; cases e
        | some l => rw [q] at e; cases e; rw [ints_rep b q]; rfl
      | _ => cases e
def boolsOf : List D → Option (List Bool)
  | [] => some []
  | .bl i :: r => (boolsOf r).map (i :: ·)
  | _ => none
theorem bools_rep {H : Hp} : ∀ {ds : List D} {vs : List V} {ns : List Bool}, RepL m H vs ds → boolsOf ds = some ns → vs = ns.map V.bl
  | [], vs, ns, r, e => by cases e; cases r; rfl
  | d :: ds, vs, ns, r, e => by
    cases r with
    | cons a b =>
      cases a with
      | bl i =>
        unfold boolsOf at e
        cases q : boolsOf ds with
        | none => rw [q] at e; cases e
        | some l => rw [q] at e; cases e; rw [bools_rep b q]; rfl
      | _ => cases e
def allD : List D → Option D
  | [.lst xs] => (boolsOf xs).map fun bs => .bl (bs.all id)
  | _ => none
def anyD : List D → Option D
  | [.lst xs] => (boolsOf xs).map fun bs => .bl (bs.any id)
  | _ => none
theorem cd_all : CallD m (rAll m.K) allD := fun vs ds d H Q r e k => by
  unfold allD at e
  split at e
  · obtain ⟨v, rfl, rv⟩ := one_of r
    rename_i xs
    cases q : boolsOf xs with
    | none => rw [q] at e; cases e
    | some bs =>
      rw [q] at e; cases e
      cases rv with
      | lst qa rl =>
        have := bools_rep rl q
        subst this
        exact ⟨_, bs, rfl, qa.sq, k _ H Grow.rfl (.bl _)⟩
  · cases e
theorem cd_any : CallD m (rAny m.K) anyD := fun vs ds d H Q r e k => by
  unfold anyD at e
  split at e
  · obtain ⟨v, rfl, rv⟩ := one_of r
    rename_i xs
    cases q : boolsOf xs with
    | none => rw [q] at e; cases e
    | some bs =>
      rw [q] at e; cases e
      cases rv with
      | lst qa rl =>
        have := bools_rep rl q
        subst this
        exact ⟨_, bs, rfl, qa.sq, k _ H Grow.rfl (.bl _)⟩
  · cases e
/-- the greatest, the least of ints -/
def maxI : List Int → Option Int
  | [] => none
  | x :: r => some (r.foldl max x)
def minI : List Int → Option Int
  | [] => none
  | x :: r => some (r.foldl min x)
theorem foldl_max : ∀ (r : List Int) (x : Int), (r.foldl max x = x ∨ r.foldl max x ∈ r) ∧ x ≤ r.foldl max x ∧ ∀ y ∈ r, y ≤ r.foldl max x
  | [], x => ⟨.inl rfl, Int.le_refl _, fun y h => by cases h⟩
  | a :: r, x => by
    obtain ⟨h1, h2, h3⟩ := foldl_max r (max x a)
    rw [List.foldl_cons]
    refine ⟨?_, by omega, fun y hy => ?_⟩
    · rcases h1 with h1 | h1
      · by_cases c : x ≤ a
        · right; rw [h1, show max x a = a by omega]; exact List.mem_cons_self
        · left; rw [h1]; omega
      · right; exact List.mem_cons_of_mem _ h1
    · rcases List.mem_cons.mp hy with rfl | hy
      · omega
      · exact h3 y hy
theorem foldl_min : ∀ (r : List Int) (x : Int), (r.foldl min x = x ∨ r.foldl min x ∈ r) ∧ r.foldl min x ≤ x ∧ ∀ y ∈ r, r.foldl min x ≤ y
  | [], x => ⟨.inl rfl, Int.le_refl _, fun y h => by cases h⟩
  | a :: r, x => by
    obtain ⟨h1, h2, h3⟩ := foldl_min r (min x a)
    rw [List.foldl_cons]
    refine ⟨?_, by omega, fun y hy => ?_⟩
    · rcases h1 with h1 | h1
      · by_cases c : a ≤ x
        · right; rw [h1, show min x a = a by omega]; exact List.mem_cons_self
        · left; rw [h1]; omega
      · right; exact List.mem_cons_of_mem _ h1
    · rcases List.mem_cons.mp hy with rfl | hy
      · omega
      · exact h3 y hy
theorem maxI_uniq {ns : List Int} {z w : Int} (h : maxI ns = some z) (h1 : w ∈ ns) (h2 : ∀ y ∈ ns, y ≤ w) : w = z := by
  cases ns with
  | nil => cases h
  | cons x r =>
    cases h
    obtain ⟨g1, g2, g3⟩ := foldl_max r x
    have a : r.foldl max x ≤ w := by
      rcases g1 with g | g
      · rw [g]; exact h2 x List.mem_cons_self
      · exact h2 _ (List.mem_cons_of_mem _ g)
    have b : w ≤ r.foldl max x := by
      rcases List.mem_cons.mp h1 with rfl | h
      · exact g2
      · exact g3 w h
    omega
theorem minI_uniq {ns : List Int} {z w : Int} (h : minI ns = some z) (h1 : w ∈ ns) (h2 : ∀ y ∈ ns, w ≤ y) : w = z := by
  cases ns with
  | nil => cases h
  | cons x r =>
    cases h
    obtain ⟨g1, g2, g3⟩ := foldl_min r x
    have a : w ≤ r.foldl min x := by
      rcases g1 with g | g
      · rw [g]; exact h2 x List.mem_cons_self
      · exact h2 _ (List.mem_cons_of_mem _ g)
    have b : r.foldl min x ≤ w := by
      rcases List.mem_cons.mp h1 with rfl | h
      · exact g2
      · exact g3 w h
    omega
def maxLD : List D → Option D
  | [.lst xs] => (intsOf xs).bind fun ns => (maxI ns).map .int
  | _ => none
def minLD : List D → Option D
  | [.lst xs] => (intsOf xs).bind fun ns => (minI ns).map .int
  | _ => none
theorem maxI_pos {ns : List Int} {z : Int} (h : maxI ns = some z) : 0 < ns.length := by cases ns <;> simp [maxI] at h ⊢
theorem minI_pos {ns : List Int} {z : Int} (h : minI ns = some z) : 0 < ns.length := by cases ns <;> simp [minI] at h ⊢
theorem cd_maxL : CallD m (rMax m.K) maxLD := fun vs ds d H Q r e k => by
  unfold maxLD at e
  split at e
  · obtain ⟨v, rfl, rv⟩ := one_of r
    rename_i xs
    cases q : intsOf xs with
    | none => rw [q] at e; cases e
    | some ns =>
      rw [q] at e
      cases q2 : maxI ns with
      | none => simp [q2] at e
      | some z =>
        simp [q2] at e; subst e
        cases rv with
        | lst qa rl =>
          have := ints_rep rl q
          subst this
          exact ⟨_, ns, rfl, qa.sq, maxI_pos q2, fun w h1 h2 => by rw [maxI_uniq q2 h1 h2]; exact k _ H Grow.rfl (.int _)⟩
  · cases e
theorem cd_minL : CallD m (rMin m.K) minLD := fun vs ds d H Q r e k => by
  unfold minLD at e
  split at e
  · obtain ⟨v, rfl, rv⟩ := one_of r
    rename_i xs
    cases q : intsOf xs with
    | none => rw [q] at e; cases e
    | some ns =>
      rw [q] at e
      cases q2 : minI ns with
      | none => simp [q2] at e
      | some z =>
        simp [q2] at e; subst e
        cases rv with
        | lst qa rl =>
          have := ints_rep rl q
          subst this
          exact ⟨_, ns, rfl, qa.sq, minI_pos q2, fun w h1 h2 => by rw [minI_uniq q2 h1 h2]; exact k _ H Grow.rfl (.int _)⟩
  · cases e
def max2D : List D → Option D
  | [.int i, .int j] => some (.int (if j > i then j else i))
  | _ => none
def min2D : List D → Option D
  | [.int i, .int j] => some (.int (if j < i then j else i))
  | _ => none
def absD : List D → Option D
  | [.int i] => some (.int (if i < 0 then -i else i))
  | _ => none
def intCD : List D → Option D
  | [.int i] => some (.int i)
  | [.bl k] => some (.int (if k then 1 else 0))
  | _ => none
theorem cd_max2 : CallD m (fun xs H Q => ∃ i j, xs = [.int i, .int j] ∧ Q (.int (if j > i then j else i)) H) max2D := fun vs ds d H Q r e k => by
  unfold max2D at e
  split at e
  · obtain ⟨v, w, rfl, rv, rw'⟩ := two_of r
    cases e; cases rv; cases rw'
    exact ⟨_, _, rfl, k _ H Grow.rfl (.int _)⟩
  · cases e
theorem cd_min2 : CallD m (fun xs H Q => ∃ i j, xs = [.int i, .int j] ∧ Q (.int (if j < i then j else i)) H) min2D := fun vs ds d H Q r e k => by
  unfold min2D at e
  split at e
  · obtain ⟨v, w, rfl, rv, rw'⟩ := two_of r
    cases e; cases rv; cases rw'
    exact ⟨_, _, rfl, k _ H Grow.rfl (.int _)⟩
  · cases e
theorem cd_abs : CallD m (fun xs H Q => ∃ i, xs = [.int i] ∧ Q (.int (if i < 0 then -i else i)) H) absD := fun vs ds d H Q r e k => by
  unfold absD at e
  split at e
  · obtain ⟨v, rfl, rv⟩ := one_of r
    cases e; cases rv
    exact ⟨_, rfl, k _ H Grow.rfl (.int _)⟩
  · cases e
theorem cd_int : CallD m (fun xs H Q => (∃ i, xs = [.int i] ∧ Q (.int i) H) ∨ ∃ k, xs = [.bl k] ∧ Q (.int (if k then 1 else 0)) H) intCD := fun vs ds d H Q r e k => by
  unfold intCD at e
  split at e
  · obtain ⟨v, rfl, rv⟩ := one_of r
    cases e; cases rv
    exact .inl ⟨_, rfl, k _ H Grow.rfl (.int _)⟩
  · obtain ⟨v, rfl, rv⟩ := one_of r
    cases e; cases rv
    exact .inr ⟨_, rfl, k _ H Grow.rfl (.int _)⟩
  · cases e
def listCD : List D → Option (List D)
  | [.lst xs] => some xs
  | [.tup xs] => some xs
  | _ => none
theorem co_list : CallO m (fun xs H Q => ∃ p ys, xs = [.ref p] ∧ (SqL m.K H p ys ∨ SqT m.K H p ys) ∧ ∀ l, H l = none → Q (.ref l) (upd H l (.lst ys))) listCD := fun vs ds d H Q r e k => by
  unfold listCD at e
  split at e
  · obtain ⟨v, rfl, rv⟩ := one_of r
    cases e
    cases rv with
    | lst q rl => exact ⟨_, _, rfl, .inl q.sq, fun l hl => k l _ _ (Grow.new hl) hl upd_same (rl.st (Grow.new hl).stable)⟩
  · obtain ⟨v, rfl, rv⟩ := one_of r
    cases e
    cases rv with
    | tup q rl => exact ⟨_, _, rfl, .inr q, fun l hl => k l _ _ (Grow.new hl) hl upd_same (rl.st (Grow.new hl).stable)⟩
  · cases e
end
end DL
end
section
namespace DL
open PySem PySem.Spec L2
open PyProof.Rows hiding St
section
variable {m : Md}
/-! ### methods that change an own list -/
def appD : List D → List D → Option (D × List D) := fun xs as => match as with
  | [y] => if xs.length < sizeLine then some (.non, xs ++ [y]) else none
  | _ => none
theorem mo_append : MtO m rAppend appD := fun a vs args xs ds d ys H Q ha r ra e k => by
  unfold appD at e
  split at e
  · obtain ⟨v, rfl, rv⟩ := one_of ra
    split at e
    · rename_i c
      cases e
      exact ⟨a, vs, v, rfl, rfl, ha, by rw [r.len]; exact c, k .non _ (r.append (.cons rv .nil)) .non⟩
    · cases e
  · cases e
def popD : List D → List D → Option (D × List D) := fun xs as => match as with
  | [] => (xs[xs.length - 1]?).map fun y => (y, xs.dropLast)
  | _ => none
theorem RepL.dropLast {H : Hp} : ∀ {vs : List V} {ds : List D}, RepL m H vs ds → RepL m H vs.dropLast ds.dropLast
  | _, [], h => by cases h; exact .nil
  | _, [d], h => by
    cases h with
    | cons a b => cases b; exact .nil
  | _, d :: e :: ds, h => by
    cases h with
    | cons a b =>
      cases b with
      | cons b c => exact .cons a (RepL.dropLast (.cons b c))
theorem mo_pop : MtO m rPop popD := fun a vs args xs ds d ys H Q ha r ra e k => by
  unfold popD at e
  split at e
  · cases ra
    cases q : xs[xs.length - 1]? with
    | none => rw [q] at e; cases e
    | some y =>
      rw [q] at e; cases e
      obtain ⟨v, h1, h2⟩ := r.get q
      exact ⟨a, vs, v, rfl, rfl, ha, by rw [r.len]; exact h1, k v _ r.dropLast h2⟩
  · cases e
theorem seq_in63 {i : Int} {n j : Nat} (h : n ≤ sizeLine) (q : seqIndex? i n = some j) : -(2 ^ 63) ≤ i ∧ i < 2 ^ 63 := by
  rw [sizeLine_eq] at h
  unfold seqIndex? at q
  simp only [Bool.and_eq_true, decide_eq_true_eq] at q
  by_cases g : i < 0
  · simp only [g, if_true] at q
    split at q
    · rename_i c; omega
    · cases q
  · simp only [g, if_false] at q
    split at q
    · rename_i c; omega
    · cases q
def popAtD : List D → List D → Option (D × List D) := fun xs as => match as with
  | [.int i] => if xs.length ≤ sizeLine then (seqIndex? i xs.length).bind fun j => (xs[j]?).map fun y => (y, xs.eraseIdx j) else none
  | _ => none
theorem RepL.eraseIdx {H : Hp} : ∀ {vs : List V} {ds : List D} (j : Nat), RepL m H vs ds → RepL m H (vs.eraseIdx j) (ds.eraseIdx j)
  | _, [], j, h => by cases h; exact .nil
  | _, d :: ds, 0, h => by
    cases h with
    | cons a b => exact b
  | _, d :: ds, j + 1, h => by
    cases h with
    | cons a b => exact .cons a (RepL.eraseIdx j b)
theorem mo_popAt : MtO m rPopAt popAtD := fun a vs args xs ds d ys H Q ha r ra e k => by
  unfold popAtD at e
  split at e
  · obtain ⟨v, rfl, rv⟩ := one_of ra
    rename_i i
    split at e
    · rename_i c
      cases rv
      cases q : seqIndex? i xs.length with
      | none => simp [q] at e
      | some j =>
        simp only [q, Option.bind_some] at e
        cases q2 : xs[j]? with
        | none => rw [q2] at e; cases e
        | some y =>
          rw [q2] at e; cases e
          obtain ⟨w, h1, h2⟩ := r.get q2
          exact ⟨a, vs, i, j, w, rfl, rfl, ha, (seq_in63 c q).1, (seq_in63 c q).2, by rw [r.len]; exact q, h1, k w _ (r.eraseIdx j) h2⟩
    · cases e
  · cases e
def revD : List D → List D → Option (D × List D) := fun xs as => match as with
  | [] => some (.non, xs.reverse)
  | _ => none
theorem mo_reverse : MtO m rReverse revD := fun a vs args xs ds d ys H Q ha r ra e k => by
  unfold revD at e
  split at e
  · cases ra; cases e
    exact ⟨a, vs, rfl, rfl, ha, k .non _ r.reverse .non⟩
  · cases e
def insD : List D → List D → Option (D × List D) := fun xs as => match as with
  | [.int i, y] => if xs.length < sizeLine ∧ 0 ≤ i ∧ i < 2 ^ 63 then some (.non, xs.take i.toNat ++ [y] ++ xs.drop i.toNat) else none
  | _ => none
theorem mo_insert : MtO m (fun x vs H Q => ∃ (l : Addr) (xs : List V) (i : Int) (y : V), x = .ref l ∧ vs = [.int i, y] ∧ H l = some (.lst xs) ∧ xs.length < sizeLine ∧ 0 ≤ i ∧ i < 2 ^ 63 ∧
    Q .non (upd H l (.lst (xs.take i.toNat ++ [y] ++ xs.drop i.toNat)))) insD := fun a vs args xs ds d ys H Q ha r ra e k => by
  unfold insD at e
  split at e
  · obtain ⟨v, w, rfl, rv, rw'⟩ := two_of ra
    split at e
    · rename_i c
      cases e
      cases rv
      exact ⟨a, vs, _, w, rfl, rfl, ha, by rw [r.len]; exact c.1, c.2.1, c.2.2, k .non _ (((r.take _).append (.cons rw' .nil)).append (r.drop _)) .non⟩
    · cases e
  · cases e
/-- extend by a frozen list -/
def rExtF (K : PySem.W.Frag) : V → List V → Hp → VK → Prop := fun x vs H Q => ∃ l b xs zs, x = .ref l ∧ vs = [.ref b] ∧ H l = some (.lst xs) ∧ SqF K H b zs ∧ xs.length + zs.length ≤ sizeLine ∧ Q .non (upd H l (.lst (xs ++ zs)))
theorem mt_extF {X : Cx} : MtR X "list.extend" (rExtF X.K) := by
  intro pins s σ H x vs v us Q I rx rv ⟨l, b, xs, zs, ex, ev, hH, hB, hz, q⟩
  subst ex; subst ev
  cases rx
  obtain ⟨u, rfl, ru⟩ := rv.one
  cases ru
  obtain ⟨_, i1, n1, r1, _, e1⟩ := I.lstM hH
  obtain ⟨i2, n2, r2, e2⟩ := isL_of I hB
  have l1 := r1.length
  have l2 := r2.length
  have sz : i1.toArray.size + i2.toArray.size ≤ sizeLine := by simp only [List.size_toArray]; omega
  have nl : ¬ (!i1.toArray.isEmpty && Builtin.List.listTooLong (i1.toArray.size + i2.toArray.size)) = true := by rw [notLongL sz, Bool.and_false]; decide
  exact call_meets PySem.F.slot_list_extend ⟨_, e1, rfl⟩ PySem.F.entry_list_extend (PySem.F.args_list_extend_2 _ _) (AutoSeq1.list_extend_list_list_0 l _ n1 b _ n2 nl (by simp only [List.size_toArray]; omega) (by omega))
    ⟨e1, e2, .non, _, I.lset (its' := i1 ++ i2) hH e1 (by simp) (r1.append r2) (by rw [List.length_append]; exact hz), rfl, q⟩
def extD : List D → List D → Option (D × List D) := fun xs as => match as with
  | [.lst ys] => if xs.length + ys.length ≤ sizeLine then some (.non, xs ++ ys) else none
  | _ => none
theorem mo_extend : MtO m (rExtF m.K) extD := fun a vs args xs ds d ys H Q ha r ra e k => by
  unfold extD at e
  split at e
  · obtain ⟨v, rfl, rv⟩ := one_of ra
    split at e
    · rename_i c
      cases e
      cases rv with
      | lst q rl => exact ⟨a, _, vs, _, rfl, rfl, ha, q, by rw [r.len, rl.len]; exact c, k .non _ (r.append rl) .non⟩
    · cases e
  · cases e
/-! ### methods that read a list -/
def MtD (m : Md) (T : String) (r : V → List V → Hp → VK → Prop) (g : D → List D → Option D) : Prop :=
  ∀ (x : V) (vs : List V) (dx d : D) (ds : List D) (H : Hp) (Q : VK), Rep m H x dx → RepL m H vs ds → g dx ds = some d → (∀ v H', Grow H H' → Rep m H' v d → Q v H') → tyV m.K T x H ∧ ∀ H', Grow H H' → (∀ v H'', Grow H' H'' → Rep m H'' v d → Q v H'') → r x vs H' Q
end
section
variable {X : Cx} {G : Gh} {W : WX} {e : Expr} {es : List Expr} {pos : Pos}
/-- x.m(..), x data -/
def MtV (m : Md) (r : V → List V → Hp → VK → Prop) (g : D → List D → Option D) : Prop :=
  ∀ (x : V) (vs : List V) (dx d : D) (ds : List D) (H : Hp) (Q : VK), Rep m H x dx → RepL m H vs ds → g dx ds = some d → (∀ v H', Grow H H' → Rep m H' v d → Q v H') → r x vs H Q
def tyD (T : String) : D → Bool
  | .str _ => T == "str"
  | .int _ => T == "int"
  | .lst _ => T == "list"
  | _ => false
def tyM (T : String) (f : M D) : M D := bindM f fun d => if tyD T d = true then pureM d else stuckM
def mtV (T : String) (g : D → List D → Option D) (fo : M D) (fa : M (List D)) : M D := bindM (tyM T fo) fun x => bindM fa fun ds => liftM (g x ds)
theorem tyD_ok {m : Md} {H : Hp} {v : V} {d : D} {T : String} (r : Rep m H v d) (h : tyD T d = true) : tyV m.K T v H := by
  cases r with
  | int i => exact (beq_iff_eq.mp h)
  | str i => exact (beq_iff_eq.mp h)
  | lst q rl => exact .inl ⟨beq_iff_eq.mp h, _, q.sq⟩
  | _ => exact absurd h (by simp [tyD])
theorem mtV_run {T : String} {r : V → List V → Hp → VK → Prop} {g : D → List D → Option D} {to : TE} {t : TA} {fo : M D} {fa : M (List D)} (hK : G.m.K = X.K) (hr : MtV G.m r g) (io : ∀ σ H Q, dT G W fo σ H Q → to σ H Q) (ia : ∀ σ H Q, aT G W fa σ H Q → t σ H Q) {σ : L2.St} {H : Hp} {Q : VK} (h : dT G W (mtV T g fo fa) σ H Q) : tBM X.K T r to t σ H Q := by
  obtain ⟨ρ, k, q⟩ := h
  refine io _ _ _ ⟨ρ, k, q.bind.bind.mono fun d ρ1 H1 _ s1 k1 q1 v rv => ?_⟩
  by_cases c : tyD T d = true
  · rw [if_pos c] at q1
    refine ⟨by rw [← hK]; exact tyD_ok rv c, ia _ _ _ ⟨ρ1, k1, (q1 H1 Stable.rfl k1).bind.mono fun ds ρ2 H2 _ s2 k2 q2 vs rs => ?_⟩⟩
    obtain ⟨z, e, q3⟩ := q2.lift k2
    exact hr v vs d z ds H2 Q (rv.st s2) rs e fun u H3 g3 r3 => q3 H3 g3.stable (k2.grow g3) u r3
  · rw [if_neg c] at q1; exact q1.elim
theorem de_bm {o : Expr} {name : Str} {apos : Pos} {T id : String} {r : V → List V → Hp → VK → Prop} {g : D → List D → Option D} {fo : M D} {fa : M (List D)} (hK : G.m = ⟨X.K, X.mg⟩) (pa : PlainAttrs T) (slot : Slot T name id) (hty : typeOf (.builtin id) = pure (.type "method_descriptor")) (hm : MtR X id r) (hr : MtV G.m r g) (ho : DE X G W o fo) (ha : DA X G W (e :: es) fa)
    (hbase : attributeBase o name X.env (eval o X.env) = eval o X.env := by rfl)
    (hfew : ((backTo pos (starEach (e :: es) X.env)).all (fun x => !x.1) && (backToKw pos (keywordEach [] X.env)).all (fun x => x.1.isSome)
      && decide ((e :: es).length + ([] : List Keyword).length + (if ([] : List Keyword).isEmpty then 0 else 1) < 30)) = true := by rfl)
    (hline : (apos.endLine == pos.line) = true := by rfl) (hs : starEach (e :: es) X.env = (false, eval e X.env) :: starEach es X.env := by rfl) (hplain : (backTo pos (starEach es X.env)).any (·.1) = false := by rfl) :
    DE X G W (.Call (.Attribute o name apos) (e :: es) [] pos) (mtV T g fo fa) :=
  pe_imp (pe_bm pa slot hty hm ho ha hbase hfew hline hs hplain) fun σ H Q h => mtV_run (by rw [hK]) hr (fun _ _ _ z => z) (fun _ _ _ z => z) h
/-- count, index of flat things -/
def flatD : D → Bool
  | .non => true
  | .bl _ => true
  | .int _ => true
  | .str _ => true
  | _ => false
def eqF : D → D → Bool
  | .non, .non => true
  | .bl a, .bl b => a == b
  | .bl a, .int b => (if a then 1 else 0) == b
  | .int a, .bl b => a == (if b then 1 else 0)
  | .int a, .int b => a == b
  | .str a, .str b => a == b
  | _, _ => false
theorem flat_rep {m : Md} {H : Hp} {v : V} {d : D} (r : Rep m H v d) (h : flatD d = true) : flatV v = true := by
  cases r <;> first | rfl | simp [flatD] at h
theorem eqF_rep {m : Md} {H : Hp} {v w : V} {d e : D} (r : Rep m H v d) (r' : Rep m H w e) (h : flatD d = true) (h' : flatD e = true) : eqV v w = eqF d e := by
  cases r <;> cases r' <;> first | rfl | simp [flatD] at h h'
theorem flats_rep {m : Md} {H : Hp} : ∀ {ds : List D} {vs : List V}, RepL m H vs ds → ds.all flatD = true → vs.all flatV = true
  | [], _, r, _ => by cases r; rfl
  | d :: ds, _, r, h => by
    cases r with
    | cons a b =>
      rw [List.all_cons, Bool.and_eq_true] at h
      rw [List.all_cons, Bool.and_eq_true]
      exact ⟨flat_rep a h.1, flats_rep b h.2⟩
def rCntF (K : PySem.W.Frag) : V → List V → Hp → VK → Prop := fun x xs H Q => ∃ (a : Addr) (ys : List V) (y : V), x = V.ref a ∧ xs = [y] ∧ SqL K H a ys ∧ flatV y = true ∧ ys.all flatV = true ∧ Q (.int ((ys.countP fun z => eqV z y : Nat) : Int)) H
theorem cnt_eqU {y : V} : ∀ {ys : List V} {us : List Value}, Vals ys us → ys.all flatV = true → us.countP (eqU y) = ys.countP fun z => eqV z y
  | _, _, .nil, _ => rfl
  | z :: ys, u :: us, .cons r t, f => by
    rw [List.all_cons, Bool.and_eq_true] at f
    rw [List.countP_cons, List.countP_cons, cnt_eqU t f.2, eqU_of r f.1]
theorem mt_cntF : MtR X "list.count" (rCntF X.K) := by
  intro pins s σ H x xs v us Q I rx rxs ⟨a, ys, y, ex, exs, hs, fy, fys, q⟩
  subst ex; subst exs
  cases rx
  obtain ⟨u, rfl, ru⟩ := rxs.one
  obtain ⟨its, rv, ⟨⟨c, dd, dt, sl⟩, n, ho, h1, h2, h3⟩, _⟩ := I.list hs
  dsimp only at h1 h2 h3
  subst h1; subst h3
  refine call_meets PySem.F.slot_list_count ⟨_, ho, rfl⟩ PySem.F.entry_list_count (PySem.F.args_list_count_2 _ _) (SeqAt.list_countAt a its.toArray n dd sl u (eqU y)) ⟨ho, fun z hz => mem_eqAt ru fy rv fys z (by simpa using hz), ?_⟩
  have e2 : its.toArray.toList.countP (eqU y) = ys.countP fun z => eqV z y := cnt_eqU rv fys
  refine ⟨.int ((ys.countP fun z => eqV z y : Nat) : Int), H, I.tok _, ⟨s.toks, ?_⟩, q⟩
  rw [← e2]
def cntD (x : D) (as : List D) : Option D := match x, as with
  | .lst xs, [y] => if (flatD y && xs.all flatD) = true then some (.int ((xs.countP fun z => eqF z y : Nat) : Int)) else none
  | _, _ => none
theorem cnt_rep {m : Md} {H : Hp} {w : V} {y : D} (rw' : Rep m H w y) (fy : flatD y = true) : ∀ {xs : List D} {vs : List V}, RepL m H vs xs → xs.all flatD = true → (vs.countP fun z => eqV z w) = xs.countP fun z => eqF z y
  | [], _, r, _ => by cases r; rfl
  | d :: xs, _, r, h => by
    cases r with
    | cons a b =>
      rw [List.all_cons, Bool.and_eq_true] at h
      rw [List.countP_cons, List.countP_cons, cnt_rep rw' fy b h.2, eqF_rep a rw' h.1 fy]
theorem mv_count {m : Md} : MtV m (rCntF m.K) cntD := fun x vs dx d ds H Q rx rs e k => by
  unfold cntD at e
  split at e
  · obtain ⟨w, rfl, rw'⟩ := one_of rs
    split at e
    · rename_i c
      rw [Bool.and_eq_true] at c
      cases e
      cases rx with
      | lst q rl => exact ⟨_, _, w, rfl, rfl, q.sq, flat_rep rw' c.1, flats_rep rl c.2, by rw [cnt_rep rw' c.1 rl c.2]; exact k _ H Grow.rfl (.int _)⟩
    · cases e
  · cases e
def idxD (x : D) (as : List D) : Option D := match x, as with
  | .lst xs, [y] => if (flatD y && xs.all flatD) = true then (xs.findIdx? fun z => eqF z y).map fun (j : Nat) => .int (j : Int) else none
  | _, _ => none
theorem mv_index {m : Md} : MtV m (rIndex m.K) idxD := fun x vs dx d ds H Q rx rs e k => by
  unfold idxD at e
  split at e
  · obtain ⟨w, rfl, rw'⟩ := one_of rs
    rename_i xs y
    split at e
    · rename_i c
      rw [Bool.and_eq_true] at c
      cases q : (xs.findIdx? fun z => eqF z y) with
      | none => rw [q] at e; cases e
      | some j =>
        rw [q] at e; cases e
        cases rx with
        | @lst a ws _ qa rl =>
          obtain ⟨hj, h1, h2⟩ := List.findIdx?_eq_some_iff_getElem.mp q
          obtain ⟨v, e1, e2⟩ := rl.get (List.getElem?_eq_getElem hj)
          have fl : ∀ (n : Nat) (hn : n < xs.length), flatD xs[n] = true := fun n hn => List.all_eq_true.mp c.2 _ (List.getElem_mem hn)
          refine ⟨a, ws, w, j, v, rfl, rfl, qa.sq, flat_rep rw' c.1, flats_rep rl c.2, e1, by rw [eqF_rep e2 rw' (fl j hj) c.1]; exact h1, fun n z' hn hz => ?_, k _ H Grow.rfl (.int _)⟩
          obtain ⟨d', g1, g2⟩ := rl.getV hz
          have hn' : n < xs.length := by omega
          rw [List.getElem?_eq_getElem hn'] at g1
          cases g1
          rw [eqF_rep g2 rw' (fl n hn') c.1]
          simpa using h2 n hn
    · cases e
  · cases e
/-! ### isinstance of data -/
def isTy (T : String) : D → Option Bool
  | .non => some false
  | .bl _ => some (T == "bool" || T == "int")
  | .int _ => some (T == "int")
  | .str _ => some (T == "str")
  | .lst _ => some (T == "list")
  | .tup _ => some (T == "tuple")
  | .dic _ _ => some (T == "dict")
  | .ins _ _ _ => none
def okTy (T : String) : Bool := ["int", "bool", "str", "list", "tuple", "dict"].contains T
theorem kit_ty {K : PySem.W.Frag} {m : Md} (hK : m.K = K) {H : Hp} {v : V} {d : D} {T : String} {b : Bool} (hT : okTy T = true) (r : Rep m H v d) (h : isTy T d = some b) : ∃ t, TyX K H v t ∧ PySem.W.kitOne K t (.type T) = some b := by
  subst hK
  have cs : T = "int" ∨ T = "bool" ∨ T = "str" ∨ T = "list" ∨ T = "tuple" ∨ T = "dict" := by simpa [okTy] using hT
  cases r with
  | non => exact ⟨_, .base .non, by rcases cs with rfl | rfl | rfl | rfl | rfl | rfl <;> (cases h; rfl)⟩
  | bl x => exact ⟨_, .base (.bl x), by rcases cs with rfl | rfl | rfl | rfl | rfl | rfl <;> (cases h; rfl)⟩
  | int x => exact ⟨_, .base (.int x), by rcases cs with rfl | rfl | rfl | rfl | rfl | rfl <;> (cases h; rfl)⟩
  | str x => exact ⟨_, .base (.str x), by rcases cs with rfl | rfl | rfl | rfl | rfl | rfl <;> (cases h; rfl)⟩
  | lst q rl =>
    have fin : PySem.W.kitOne m.K (.type "list") (.type T) = some b := by rcases cs with rfl | rfl | rfl | rfl | rfl | rfl <;> (cases h; rfl)
    rcases q with ⟨o, q⟩ | ⟨its, n, q, _⟩
    · exact ⟨_, .base (.frz q), fin⟩
    · exact ⟨_, .kList q rfl, fin⟩
  | tup q rl =>
    have fin : PySem.W.kitOne m.K (.type "tuple") (.type T) = some b := by rcases cs with rfl | rfl | rfl | rfl | rfl | rfl <;> (cases h; rfl)
    rcases q with (q | ⟨o, q⟩) | ⟨o, its, n, q, c, _⟩
    · exact ⟨_, .base (.tup q), fin⟩
    · exact ⟨_, .fTuple q, fin⟩
    · exact ⟨_, .kTuple q c, fin⟩
  | dicK q rl => exact ⟨_, .fDict q, by rcases cs with rfl | rfl | rfl | rfl | rfl | rfl <;> (cases h; rfl)⟩
  | ins => cases h
def isiM (T : String) (f : M D) : M D := bindM f fun d => liftM ((isTy T d).map .bl)
theorem de_isi {T : Str} {Ts : String} {p p2 : Pos} {f : M D} (hK : G.m = ⟨X.K, X.mg⟩) (hT : okTy Ts = true) (hg : Gl X "isinstance") (hm : X.mg "isinstance" = none) (hgT : Gl X T) (hmT : X.mg T = none) (hv : bootBuiltins T = some (.type Ts)) (ha : DE X G W e f) (hn : T ≠ "__name__" := by decide) (hd : (T == ("__debug__" : Str)) = false := by decide)
    (hs : starEach (e :: [.Name T p2]) X.env = (false, eval e X.env) :: starEach [.Name T p2] X.env := by rfl) (hs2 : starEach (.Name T p2 :: []) X.env = (false, eval (.Name T p2) X.env) :: starEach [] X.env := by rfl)
    (hpl : (backTo pos (starEach [.Name T p2] X.env)).any (·.1) = false := by rfl) : DE X G W (.Call (.Name "isinstance" p) [e, .Name T p2] [] pos) (isiM Ts f) :=
  pe_imp (pe_callB call_isi hg hm (by decide +kernel) (pa_cons ha (pa_cons (pe_bltn (v := .ty Ts) hgT hmT hv rfl hn hd) pa_nil hs2) hs) (by decide) (by decide) hs hpl) fun σ H Q ⟨ρ, k, q⟩ => ⟨ρ, k, q.bind.mono fun d ρ1 H1 _ s1 k1 q1 v r => by
    obtain ⟨z, e, q3⟩ := q1.lift k1
    cases q : isTy Ts d with
    | none => rw [q] at e; cases e
    | some b =>
      rw [q] at e; cases e
      obtain ⟨t, h1, h2⟩ := kit_ty (K := X.K) (by rw [hK]) hT r q
      exact ⟨v, _, t, _, b, rfl, .ty Ts, h1, h2, q3 H1 Stable.rfl k1 _ (.bl b)⟩⟩
end
end DL
end
section
namespace DL
open PySem PySem.Spec L2
open PyProof.Rows hiding St

/-! ### try .. except X as e -/
section
variable {G : Gh} {σ : L2.St} {H : Hp} {ρ : DL.Env}
theorem StOk.setNo (k : StOk G σ H ρ) {i : Nat} (hp : pfree G i) : StOk G (σ.set i none) H (ρ.set i .no) := by
  have nin : ∀ {j : Nat} {s : Sl}, (ρ.set i .no)[j]? = some s → s ≠ .no → i ≠ j ∧ ρ[j]? = some s := fun {j s} h hs => by
    rcases set_get h with ⟨_, e, _⟩ | ⟨e, h⟩
    · exact absurd e hs
    · exact ⟨e, h⟩
  refine ⟨by simp [k.len], fun j x h => ?_, fun j xs h => ?_, fun j l xs ys b ne h1 h2 h3 => ?_, fun p hm => ?_, k.keep, fun j c h => ?_⟩
  · obtain ⟨n, h⟩ := nin h (fun z => by cases z)
    rw [List.getElem?_set_ne n]; exact k.dat j x h
  · obtain ⟨n, h⟩ := nin h (fun z => by cases z)
    rw [List.getElem?_set_ne n]; exact k.own j xs h
  · obtain ⟨n1, h1⟩ := nin h1 (fun z => by cases z)
    obtain ⟨n2, h2⟩ := nin h2 (fun z => by cases z)
    rw [List.getElem?_set_ne n1] at h3
    rw [List.getElem?_set_ne n2]; exact k.sep j l xs ys b ne h1 h2 h3
  · obtain ⟨q1, xs, q2⟩ := k.prot p hm
    have n : i ≠ p.1 := fun z => hp p hm z.symm
    exact ⟨by rw [List.getElem?_set_ne n]; exact q1, xs, by rw [List.getElem?_set_ne n]; exact q2⟩
  · obtain ⟨n, h⟩ := nin h (fun z => by cases z)
    rw [List.getElem?_set_ne n]; exact k.exn j c h
def Gh.hot (G : Gh) (a : Addr) (c : Str) : Gh := { G with ex := some (a, c) }
theorem StOk.heat (k : StOk G σ H ρ) {i : Nat} {a : Addr} {c : Str} (hx : G.ex = none) (hp : pfree G i) : StOk (G.hot a c) (σ.set i (some (.ref a))) H (ρ.set i (.exn c)) := by
  have nin : ∀ {j : Nat} {s : Sl}, (ρ.set i (.exn c))[j]? = some s → (∀ c', s ≠ .exn c') → i ≠ j ∧ ρ[j]? = some s := fun {j s} h hs => by
    rcases set_get h with ⟨_, e, _⟩ | ⟨e, h⟩
    · exact absurd e (hs c)
    · exact ⟨e, h⟩
  refine ⟨by simp [k.len], fun j x h => ?_, fun j xs h => ?_, fun j l xs ys b ne h1 h2 h3 => ?_, fun p hm => ?_, k.keep, fun j c' h => ?_⟩
  · obtain ⟨n, h⟩ := nin h (fun _ z => by cases z)
    rw [List.getElem?_set_ne n]; exact k.dat j x h
  · obtain ⟨n, h⟩ := nin h (fun _ z => by cases z)
    rw [List.getElem?_set_ne n]; exact k.own j xs h
  · obtain ⟨n1, h1⟩ := nin h1 (fun _ z => by cases z)
    obtain ⟨n2, h2⟩ := nin h2 (fun _ z => by cases z)
    rw [List.getElem?_set_ne n1] at h3
    rw [List.getElem?_set_ne n2]; exact k.sep j l xs ys b ne h1 h2 h3
  · obtain ⟨q1, xs, q2⟩ := k.prot p hm
    have n : i ≠ p.1 := fun z => hp p hm z.symm
    exact ⟨by rw [List.getElem?_set_ne n]; exact q1, xs, by rw [List.getElem?_set_ne n]; exact q2⟩
  · rcases set_get h with ⟨e, e2, hl⟩ | ⟨e, h⟩
    · cases e2; subst e
      exact ⟨a, rfl, by rw [List.getElem?_set_self (by rw [k.len]; exact hl)]⟩
    · obtain ⟨b, h1, _⟩ := k.exn j c' h
      rw [hx] at h1; cases h1
/-- the suite is left: no slot holds the exception any more -/
def noExn (ρ : DL.Env) : Bool := ρ.all fun s => match s with
  | .exn _ => false
  | _ => true
theorem StOk.cool {a : Addr} {c : Str} (k : StOk (G.hot a c) σ H ρ) (h : noExn ρ = true) : StOk G σ H ρ :=
  ⟨k.len, k.dat, k.own, k.sep, k.prot, k.keep, fun i c' e => by
    have := List.all_eq_true.mp h _ (List.mem_of_getElem? e)
    simp at this⟩
end
/-- slot i holds the exception in the suite; sub: whether the clause's class is over the exception's -/
def tryM (i : Nat) (sub : Str → Option Bool) (body : MS) (suite : Str → MS) : MS := fun ρ => match body ρ with
  | .exc c ρ1 => match sub c with
    | some true => (match suite c (ρ1.set i (.exn c)) with
      | .ok fl ρ2 => if noExn (ρ2.set i .no) = true then .ok fl (ρ2.set i .no) else .stuck
      | _ => .stuck)
    | some false => .exc c ρ1
    | none => .stuck
  | r => r
theorem RetOk.hot {rm : Bool} {G : Gh} {a : Addr} {c : Str} {H : Hp} {v : V} {d : D} (r : RetOk rm (G.hot a c) H v d) : RetOk rm G H v d := by
  cases rm <;> exact r
section
variable {X : Cx} {G : Gh} {W : WX} {rm : Bool}
theorem ds_try (i : Nat) {x n : Str} {cv : Value} {sub : Str → Option Bool} {body suite : List Stmt} {b0 : Stmt} {np pos pos' : Pos} {bm : MS} {sm : Str → MS} (hx : G.ex = none) (hGK : G.m = ⟨X.K, X.mg⟩) (pf : pfree G i) (hsub : ∀ (c : Str) (C : Addr) (b : Bool), X.mg c = some (.ref C) → sub c = some b → PySem.W.exmOne X.K (.ref C) cv = some b)
    (hs : X.stack = X.env :: X.outer) (hf : X.env.frame = some X.env.locals) (hN : X.N.Nodup) (hi : X.N[i]? = some n) (hln : X.env.kindOf n = some .local) (hc : Names X x cv) (tk : Takes X W)
    (hb : ∀ (W' : WX) (pn : List (Addr × Obj)) (xe : Value → Shared → Prop), Takes (X.tr pn xe) W' → PassesOwn (model X.prog X.w) X.A X.env xe → DSs (X.tr pn xe) G W' rm body bm)
    (hsu : ∀ (a : Addr) (oe : Obj) (C : Addr) (c : Str) (pn : List (Addr × Obj)), X.mg c = some (.ref C) → sub c = some true → Zc (.ref C) none oe → (∃ vs, oe.data = .fields vs) → DSs (X.suite a ((a, oe) :: pn)) ⟨G.m, G.H0, G.pr, some (a, c)⟩ W0 rm (b0 :: suite) (sm c)) :
    DS X G W rm (.Try body [.ExceptHandler (some (.Name x np)) (some n) (b0 :: suite) pos'] [] [] pos) (tryM i sub bm sm) := by
  refine ps_imp (ps_try_as (ts := fun a cls d E σ H => ∃ (C : Addr) (c : Str), cls = .ref C ∧ d = none ∧ X.mg c = some (.ref C) ∧ sub c = some true ∧ sT (G.hot a c) W0 rm (sm c) E σ H) hs hf hN hi hln hc tk hb
    (fun a oe cls d pn hz hv => ⟨fun pins s σ H E I ⟨C, c, e1, e2, e3, e4, q⟩ => ?_⟩)) fun E σ H ⟨ρ, k, q⟩ => ?_
  · subst e1; subst e2
    exact (hsu a oe C c pn e3 e4 hz hv).run pins s σ H E I q
  · refine ⟨ρ, k, ?_⟩
    unfold tryM at q
    cases e : bm ρ with
    | ok fl ρ1 => rw [e] at q; cases fl <;> exact q
    | stuck => rw [e] at q; exact q
    | exc c ρ1 =>
      simp only [e] at q
      intro σ1 C H1 eC s1 k1
      have eC' : X.mg c = some (.ref C) := by rw [hGK] at eC; exact eC
      cases e2 : sub c with
      | none => simp only [e2] at q; exact q.elim
      | some b =>
        refine ⟨b, hsub c C b eC' e2, fun hb a ha => ?_, fun hb => ?_⟩
        · subst hb
          simp only [e2] at q
          refine ⟨C, c, rfl, rfl, eC', e2, ρ1.set i (.exn c), k1.heat hx pf, ?_⟩
          cases e3 : sm c (ρ1.set i (.exn c)) with
          | ok fl ρ2 =>
            simp only [e3] at q
            by_cases hn : noExn (ρ2.set i .no) = true
            · simp only [hn, if_true] at q
              cases fl with
              | nx => exact fun σ2 H2 s2 k2 => q _ H2 (s1.trans s2) ((StOk.setNo k2 pf).cool hn)
              | brk => exact fun σ2 H2 s2 k2 => q _ H2 (s1.trans s2) ((StOk.setNo k2 pf).cool hn)
              | ct => exact fun σ2 H2 s2 k2 => q _ H2 (s1.trans s2) ((StOk.setNo k2 pf).cool hn)
              | ret d => exact fun v σ2 H2 s2 k2 r => q v _ H2 (s1.trans s2) ((StOk.setNo k2 pf).cool hn) r.hot
            · simp only [hn] at q; exact q.elim
          | exc c2 ρ2 => simp only [e3] at q; exact q.elim
          | stuck => simp only [e3] at q; exact q.elim
        · subst hb
          simp only [e2] at q
          exact q σ1 C H1 eC s1 k1

/-! ### the handled exception: its class -/
def exnM (i : Nat) (g : Str → Option Bool) : M D := fun ρ => match ρ[i]? with
  | some (.exn c) => (match g c with
    | some b => .ok (.bl b) ρ
    | none => .stuck)
  | _ => .stuck
/-- what stands at the handled exception -/
structure HotX (X : Cx) (a : Addr) (C : Addr) (oe : Obj) : Prop where
  pn : (a, oe) ∈ X.pn
  zc : Zc (.ref C) none oe
  fl : ∃ vs, oe.data = .fields vs
theorem cr_isE {a C : Addr} {oe : Obj} (hx : HotX X a C oe) (ec : ExcC X.K C) : CallR X (.builtin "isinstance") (rIsE X.K C a) := by
  intro pins s σ H xs us Q I r ⟨c, cv, b, e1, hcv, e2, q⟩
  subst e1
  cases r with
  | cons r1 r =>
    cases r with
    | cons r2 r =>
      cases r; cases r1
      rw [hcv _ r2]
      obtain ⟨oc, od, dt, sl⟩ := oe
      obtain ⟨z1, z2⟩ := hx.zc
      obtain ⟨vs, z3⟩ := hx.fl
      dsimp only at z1 z2 z3
      subst z1; subst z2; subst z3
      have J : PySem.W.InstAt s.heap a { cls := .ref C, dict := none, data := .fields vs, slots := sl } C none := ⟨(I.pin _ (List.mem_append_left _ hx.pn)).1, rfl, rfl, trivial⟩
      have KX := PySem.W.handS_kitx_exc (x := a) (ox := { cls := .ref C, dict := none, data := .fields vs, slots := sl }) ec.hg ec.hk ec.hs ec.hd ec.ha ec.hn ec.ht ec.hm
      exact PySem.W.kia_one KX I.kIn J e2 (fun z => by cases z) fun tk => ⟨.bl b, H, I.kept (t' := tk) fun _ _ z => z, rfl, q⟩
/-- isinstance(e, c), e the handled exception in slot i; c a class of the module or a built-in one -/
theorem de_isE (i : Nat) {y : Str} {ce : Expr} {a C : Addr} {c : Str} {oe : Obj} {cV : V} {cv : Value} {g : Str → Option Bool} {p p2 pos : Pos} (hx : HotX X a C oe) (ec : ExcC X.K C) (hex : G.ex = some (a, c)) (hcls : PE X ce (tC cV)) (hcv : ∀ u, RelV cV u → u = cv) (hg' : ∀ b, g c = some b → PySem.W.kitOne X.K (.ref C) cv = some b)
    (hg : Gl X "isinstance") (hm : X.mg "isinstance" = none) (hN : X.N[i]? = some y) (hv : Vis X.env.scope y := by first | exact .inl rfl | exact .inr (.inl rfl) | exact .inr (.inr rfl)) (hd : (y == ("__debug__" : Str)) = false := by decide) (hcd : (y == ("__classdict__" : Str)) = false := by decide)
    (hs : starEach [.Name y p2, ce] X.env = (false, eval (.Name y p2) X.env) :: starEach [ce] X.env := by rfl) (hs2 : starEach [ce] X.env = (false, eval ce X.env) :: starEach [] X.env := by rfl) (hpl : (backTo pos (starEach [ce] X.env)).any (·.1) = false := by rfl) :
    DE X G W (.Call (.Name "isinstance" p) [.Name y p2, ce] [] pos) (exnM i g) :=
  pe_imp (pe_callB (cr_isE hx ec) hg hm (by decide +kernel) (pa_cons (pe_var (i := i) hN hv hd hcd) (pa_cons hcls pa_nil hs2) hs) (by decide) (by decide) hs hpl) fun σ H Q ⟨ρ, k, q⟩ => by
    unfold exnM at q
    cases e : ρ[i]? with
    | none => simp only [e] at q; exact q.elim
    | some s =>
      cases s with
      | exn c' =>
        simp only [e] at q
        obtain ⟨b, h1, h2⟩ := k.exn i c' e
        rw [hex] at h1
        cases h1
        cases e2 : g c with
        | none => simp only [e2] at q; exact q.elim
        | some bb =>
          simp only [e2] at q
          exact ⟨_, h2, cV, cv, bb, rfl, hcv, hg' bb e2, q H Stable.rfl k _ (.bl bb)⟩
      | no => simp only [e] at q; exact q.elim
      | d x => simp only [e] at q; exact q.elim
      | own x => simp only [e] at q; exact q.elim

/-! ### a def called in the suite -/
structure FnX (P : Program) (w : World) (K : PySem.W.Frag) (mg : Str → Option Value) (base : Heap) (k : Nat) (f : Addr) (fd : FuncData) (ps : List Str) (p : Addr × Obj) (sp : Sp) : Prop where
  len : ∀ vs H Q E, sp vs H Q E → vs.length = ps.length
  run : ∀ (A : Around) (outer : List PySem.Env) (s : Shared) (H : Hp) (args : Args) (us : List Value) (vs : List V) (Q : VK) (E : XK), L2H.RoomH k A → L2H.PinOk outer H s p → Env0 P w K mg base A outer s H →
    BindsTo s fd args (ps.zip us) → Vals vs us → sp vs H Q E → codeAny (model P w) A (.call (.ref f) args) (CR CX0 outer P w H s Q E) s
/-- .. that raises nothing -/
def spX (m : Md) (ex : Option (Addr × Str)) (md : List Bool) (rm : Bool) (f : Fn) : Sp := fun vs H Q _ => spD m ex md rm f vs H Q fun _ _ _ => False
abbrev cxX (P : Program) (w : World) (K : PySem.W.Frag) (mg : Str → Option Value) (base : Heap) (N : List Str) (qual : Str) (scope : Scope) (f : Addr) (cd : Value) (A : Around) (outer : List PySem.Env) (s : Shared) (H : Hp) (E : XK) (p : Addr × Obj) : Cx := L2H.cxH CX0 P w K mg base N qual scope f cd A outer s H E p
theorem fnx_ok {P : Program} {w : World} {K : PySem.W.Frag} {mg : Str → Option Value} {base : Heap} {k : Nat} {f : Addr} {fd : FuncData} {N ps : List Str} {x qual : Str} {params : Arguments} {body : List Stmt} {scope : Scope} {md : List Bool} {rm : Bool} {bm : MS} {p : Addr × Obj} {c : Str}
    (F : FunD K x qual params body scope [] [] f fd) (S : FnScope N ps scope) (hmd : md.length = ps.length)
    (D : ∀ (cdv : Value) (A : Around) (outer : List PySem.Env) (s : Shared) (H : Hp) (E : XK) (H0 : Hp) (pr : List (Nat × Addr)), (∀ i, md.getD i false = false → pfree ⟨⟨K, mg⟩, H0, pr, some (p.1, c)⟩ i) → L2H.RoomH k (A.deeper (envOfC qual scope s.heap.objs.size f cdv)) → DSs (cxX P w K mg base N qual scope f cdv A outer s H E p) ⟨⟨K, mg⟩, H0, pr, some (p.1, c)⟩ W0 rm body bm) :
    FnX P w K mg base (k + 1) f fd ps p (spX ⟨K, mg⟩ (some (p.1, c)) md rm (fnM rm N.length bm)) := by
  have L : ∀ vs H Q E, spX ⟨K, mg⟩ (some (p.1, c)) md rm (fnM rm N.length bm) vs H Q E → vs.length = ps.length := fun vs H Q E ⟨ρ, h1, h2, _⟩ => by
    rw [h2.len, ← hmd, ← h1, List.length_map]
  obtain ⟨oc, od, dV, kV, doc, pm, an, cdv, ct, osl, rfl, lk, hcd, _, _⟩ := F.ex
  refine ⟨L, fun A outer s H args us vs Q E room pin e0 bnd rel hsp => ?_⟩
  have hlen := L _ _ _ _ hsp
  have kk : ∀ b o, base.get? b = some o → s.heap.get? b = some o := fun b o e => (e0.bs b o e).1
  have loc : ∀ z ∈ ps.zip us, scope.names.lookup z.1 = some .local ∨ (scope.names.lookup z.1 = some .cell ∧ ((cellsFrom (s.heap.objs.size + 1) scope.names []).lookup z.1).isSome = true) := by
    rintro ⟨n, v⟩ hz
    cases S.par n (List.of_mem_zip hz).1 with
    | inl q => exact .inl q
    | inr q => exact .inr ⟨q, PySem.W.cellsFrom_some _ _ _ (.inl q)⟩
  refine codeAny_call_function room.depth (e0.mod.kin.keeps kk _ _ lk) rfl S.co S.gen rfl (PySem.W.codeRec_of (e0.mod.kin.keeps kk) hcd) (bnd _ _ _ _ (wpAny_newFunctionEnv_cells S.kind loc ?_))
  intro env he s1 ic
  subst he
  refine ⟨(e0.mod.nolimit.keeps kk).keeps ic.toInCall.keep, codeAny_func ?_⟩
  obtain ⟨ρ, h1, h2, h3⟩ := hsp
  have J := L2H.inv_startH (CX := CX0) (E := E) S pin e0 hlen rel ic
  have der := D cdv A outer s H E H (prOf vs ρ 0) (fun i hi => pfree_of (m := ⟨K, mg⟩) (ex := some (p.1, c)) (H := H) h1 i hi) (room.deeper _)
  have rd := body_ok (W := W0) (fun _ _ _ _ z => z) h2 h3
  refine wpAny_mono (der.run [] s1 _ H _ J rd) (fun fl s' hs => ?_) fun e s' hs => hs
  have fin : ∀ {σ' : L2.St} {H' : Hp} {v : V} {u : Value}, Inv (cxX P w K mg base N qual scope f cdv A outer s H E p) [] σ' H' s' → RelV v u → Q v H' → CE outer P w H s Q u s' :=
    fun J rv q => ⟨_, _, J.os, J.bare, J.base, J.hok, rv, q⟩
  match fl, hs with
  | .ret u, ⟨v, _, _, J, rv, q⟩ => exact fin J rv q
  | .next, ⟨_, _, J, q⟩ => exact fin (v := V.non) J rfl q
  | .brk, ⟨_, _, _, q⟩ => exact q.elim
  | .cont, ⟨_, _, _, q⟩ => exact q.elim
/-- f(..) in the suite -/
theorem callx_run {X : Cx} {G : Gh} {md : List Bool} {rm : Bool} {f : Fn} {σ : L2.St} {H : Hp} {ρ : DL.Env} {vs : List V} {ags : List Ag} {Q : VK} {R : D → DL.Env → Hp → Prop} (k : StOk G σ H ρ) (r : AgOk G.m σ H vs ags) (hmd : (ags.map (toSl ρ)).map isOwn = md)
    (q : postG G W0 σ H (if (slots ags).Nodup then (match f (ags.map (toSl ρ)) with
      | .ok d os => .ok d (putBack ags os ρ)
      | .exc c os => .exc c (putBack ags os ρ)
      | .stuck => .stuck) else .stuck) R) (hQ : ∀ d ρ' v H', RetF rm G.m H H' v d → R d ρ' H' → Q v H') : spD G.m G.ex md rm f vs H Q (fun _ _ _ => False) := by
  by_cases nd : (slots ags).Nodup
  · rw [if_pos nd] at q
    refine ⟨ags.map (toSl ρ), hmd, ag_arg k r nd, ?_⟩
    cases e : f (ags.map (toSl ρ)) with
    | ok d os =>
      rw [e] at q
      exact fun v H' kp st a rf => hQ d _ v H' rf (q H' st (after_call k r nd kp st a))
    | exc c os =>
      rw [e] at q
      exact fun C H' e kp st a => q C H' e st (after_call k r nd kp st a)
    | stuck => rw [e] at q; exact q.elim
  · rw [if_neg nd] at q; exact q.elim
theorem de_callX {e : Expr} {es : List Expr} {pos : Pos} {kk : Nat} {fA : Addr} {fd : FuncData} {ps : List Str} {md : List Bool} {f : Fn} {x : Str} {p : Pos} {pp : Addr × Obj} {fa : M (List Ag)} (hm0 : G.m = ⟨X.K, X.mg⟩) (hpp : pp ∈ X.pn) (F : FnX X.prog X.w X.K X.mg X.base kk fA fd ps pp (spX ⟨X.K, X.mg⟩ G.ex md false f)) (hr : L2H.RoomH kk X.A) (hg : Gl X x) (hm : X.mg x = some (.ref fA)) (hk : PySem.W.keepIn X.K (.ref fA) = true) (hb : Binds X.K fd ps [])
    (ha : DG X G W0 (e :: es) fa) (hdb : (x == ("__debug__" : Str)) = false := by decide) (he : starEach (e :: es) X.env = (false, eval e X.env) :: starEach es X.env := by rfl) (hpl : (backTo pos (starEach es X.env)).any (·.1) = false := by rfl) :
    DE X G W0 (.Call (.Name x p) (e :: es) [] pos) (callM f (mdM md fa)) := by
  refine ⟨fun pins s σ H Q I ⟨ρ, k, q⟩ => wpAny_Call_Name_kw (ld_glob I hg hm (PySem.W.callWith_K (h₀ := X.base) I.ok.mod.kin hk ?_ he hpl) hdb)⟩
  refine thn (ha.run pos pins s σ H (fun vs H1 => spX ⟨X.K, X.mg⟩ G.ex md false f vs H1 Q (fun _ _ _ => False)) I ⟨ρ, k, (mdM_run q).mono fun ags ρ1 H1 _ s1 k1 q1 vs rs => ?_⟩) fun us s1 ⟨vs, H1, I1, r, q1⟩ => ⟨I1.kIn, ?_⟩
  · rw [← hm0]
    exact callx_run (X := X) k1 rs q1.1 q1.2 fun d ρ' v H' rf h => h v rf
  · have hl : us.length = ps.length := by rw [← r.length]; exact F.len _ _ _ _ q1
    have b := hb s1 us I1.kIn (by rw [List.append_nil]; exact hl)
    rw [List.append_nil] at b
    obtain ⟨z1, z2, z3, z4, z5⟩ := I1.pin pp (List.mem_append_left _ hpp)
    have pin : L2H.PinOk X.stack H1 s1 pp := ⟨z1, z2, fun hm => (List.mem_cons.mp (I1.stkSub pp.1 hm)).elim z3 z4, z5⟩
    refine wpAny_call (codeAny_mono (F.run X.A X.stack s1 H1 ⟨us, []⟩ us vs Q (fun _ _ _ => False) hr pin I1.env0 b r q1) fun rr s' hq => ?_)
    match rr, hq with
    | .error e, hq => exact hq.elim
    | .ok (.ret u), hq => exact I1.after hq
    | .ok .next, hq => exact hq.elim
    | .ok .brk, hq => exact hq.elim
    | .ok .cont, hq => exact hq.elim
end
end DL
end
section
namespace DL
open PySem PySem.Spec L2
open PyProof.Rows hiding St

/-! ### a def of the text, a def's promise, by name -/
def DefIn (K : PySem.W.Frag) (mg : Str → Option Value) (x : Str) (st : Stmt) (fA : Addr) (fd : FuncData) : Prop := mg x = some (.ref fA) ∧ FunD K x x (defArgs st) (defBody st) (defScope st) [] [] fA fd
structure DFn (P : Program) (w : World) (K : PySem.W.Frag) (mg : Str → Option Value) (base : Heap) (x : Str) (k : Nat) (md : List Bool) (rm : Bool) (f : Fn) : Prop where
  ex : ∃ fA fd ps, mg x = some (.ref fA) ∧ PySem.W.keepIn K (.ref fA) = true ∧ Binds K fd ps [] ∧ FnOk P w K mg base (L2.CX P w) k fA fd ps (spD ⟨K, mg⟩ none md rm f)
theorem DFn.mono {P : Program} {w : World} {K : PySem.W.Frag} {mg : Str → Option Value} {base : Heap} {x : Str} {j k : Nat} {md : List Bool} {rm : Bool} {f : Fn} (h : DFn P w K mg base x j md rm f) (hj : j ≤ k) : DFn P w K mg base x k md rm f := by
  obtain ⟨fA, fd, ps, h1, h2, h3, h4⟩ := h.ex
  exact ⟨fA, fd, ps, h1, h2, h3, h4.mono hj⟩
abbrev BindsF (x : Str) (st : Stmt) (ps : List Str) : Prop := ∀ (kV doc pm : Value) (an : Option Addr) (cdv ct : Value) (us : List Value), us.length = ps.length → bindArgs (PySem.W.fnOf x x (defArgs st) (defBody st) (defScope st) .none kV doc pm an cdv ct) ⟨us, []⟩ = pure (ps.zip us)
theorem dfn_stuck {P : Program} {w : World} {K : PySem.W.Frag} {mg : Str → Option Value} {base : Heap} {x : Str} {st : Stmt} {fA : Addr} {fd : FuncData} {k : Nat} {ps : List Str} {md : List Bool} {rm : Bool} (Dn : DefIn K mg x st fA fd) (hb : BindsF x st ps) : DFn P w K mg base x k md rm fun _ => .stuck := by
  obtain ⟨h1, F⟩ := Dn
  exact ⟨fA, fd, ps, h1, F.kp, F.bindsN hb, fn_stuck⟩
theorem dfn_ok {P : Program} {w : World} {K : PySem.W.Frag} {mg : Str → Option Value} {base : Heap} {x : Str} {st : Stmt} {fA : Addr} {fd : FuncData} {k : Nat} {N ps : List Str} {md : List Bool} {rm : Bool} {bm : MS} (Dn : DefIn K mg x st fA fd) (S : FnScope N ps (defScope st)) (hmd : md.length = ps.length) (hb : BindsF x st ps)
    (D : ∀ (cdv : Value) (A : Around) (outer : List PySem.Env) (s : Shared) (H : Hp) (E : XK) (H0 : Hp) (pr : List (Nat × Addr)), (∀ i, md.getD i false = false → pfree ⟨⟨K, mg⟩, H0, pr, none⟩ i) → Room k (A.deeper (envOfC x (defScope st) s.heap.objs.size fA cdv)) →
      Takes (cxOf (L2.CX P w) P w K mg base N x (defScope st) fA cdv A outer s H E) (fun cls d _ H => E cls d H) → DSs (cxOf (L2.CX P w) P w K mg base N x (defScope st) fA cdv A outer s H E) ⟨⟨K, mg⟩, H0, pr, none⟩ (fun cls d _ H => E cls d H) rm (defBody st) bm) :
    DFn P w K mg base x (k + 1) md rm (fnM rm N.length bm) := by
  obtain ⟨h1, F⟩ := Dn
  exact ⟨fA, fd, ps, h1, F.kp, F.bindsN hb, fn_ok F S hmd D⟩
section
variable {X : Cx} {G : Gh} {W : WX} {e : Expr} {es : List Expr} {pos p : Pos} {x : Str} {j k : Nat} {md : List Bool} {f : Fn} {fa : M (List Ag)}
theorem de_calls (hex : G.ex = none) (hm0 : G.m = ⟨X.K, X.mg⟩) (tk : Takes X W) (C : DFn X.prog X.w X.K X.mg X.base x j md false f) (hr : Room k X.A) (hk : j ≤ k) (hg : Gl X x) (ha : DG X G W (e :: es) fa) (hdb : (x == ("__debug__" : Str)) = false := by decide) (he : starEach (e :: es) X.env = (false, eval e X.env) :: starEach es X.env := by rfl) (hpl : (backTo pos (starEach es X.env)).any (·.1) = false := by rfl) :
    DE X G W (.Call (.Name x p) (e :: es) [] pos) (callM f (mdM md fa)) := by
  obtain ⟨fA, fd, ps, h1, h2, h3, h4⟩ := C.ex
  exact de_call hex hm0 tk h4 (hr.mono hk) hg h1 h2 h3 ha hdb he hpl
theorem do_calls (hex : G.ex = none) (hm0 : G.m = ⟨X.K, X.mg⟩) (tk : Takes X W) (C : DFn X.prog X.w X.K X.mg X.base x j md true f) (hr : Room k X.A) (hk : j ≤ k) (hg : Gl X x) (ha : DG X G W (e :: es) fa) (hdb : (x == ("__debug__" : Str)) = false := by decide) (he : starEach (e :: es) X.env = (false, eval e X.env) :: starEach es X.env := by rfl) (hpl : (backTo pos (starEach es X.env)).any (·.1) = false := by rfl) :
    DO X G W (.Call (.Name x p) (e :: es) [] pos) (callL f (mdM md fa)) := by
  obtain ⟨fA, fd, ps, h1, h2, h3, h4⟩ := C.ex
  exact do_call hex hm0 tk h4 (hr.mono hk) hg h1 h2 h3 ha hdb he hpl
/-- an own exception class -/
structure ExcIn (K : PySem.W.Frag) (mg : Str → Option Value) (x : Str) : Prop where
  ex : ∃ C, mg x = some (.ref C) ∧ PySem.W.excIn K C He.veBase "ValueError.__new__" = true ∧ PySem.W.keepIn K (.ref C) = true ∧ PySem.W.subIn K (.ref C) (.type "BaseException") = some true ∧ PySem.W.typeIn K (.ref C) = some (.type "type")
theorem ds_raises {rm : Bool} {z : Str} {j : Nat} {p2 pos2 : Pos} (hK : G.m = ⟨X.K, X.mg⟩) (hc : X.calm = true) (tk : Takes X W) (T : ExcIn X.K X.mg x) (hg : Gl X x) (hdb : (x == ("__debug__" : Str)) = false := by decide) :
    DS X G W rm (.Raise (some (.Call (.Name x p) [.Constant (.str z) j p2] [] pos)) none pos2) (raiseM x) := by
  obtain ⟨C, h1, h2, h3, h4, h5⟩ := T.ex
  exact ds_raise hK hc tk h2 h1 h3 (raises_own h4 h5) hg hdb
/-- -n -/
def negM (f : M D) : M D := bindM f fun d => match d with
  | .int i => pureM (.int (-i))
  | _ => stuckM
theorem de_neg {f : M D} (h : DE X G W e f) : DE X G W (.UnaryOp .USub e pos) (negM f) := pe_imp (pe_un un_neg h) fun σ H Q ⟨ρ, k, q⟩ => ⟨ρ, k, q.bind.mono fun d ρ1 H1 _ s1 k1 q1 v r => by
  cases r with
  | int i => exact ⟨i, rfl, q1 H1 Stable.rfl k1 _ (.int _)⟩
  | _ => exact q1.elim⟩
end
end DL
end
section
namespace DL
open PySem PySem.Spec L2
open PyProof.Rows hiding St

theorem roomMark {j k : Nat} {A : Around} {h : Option Value} (r : L2H.RoomH k A) (hj : j ≤ k) : L2H.RoomH j (A.mark h) := ⟨by have := r.dp; show A.depth + 3 * j + 5 < _; omega, by have := r.un; show A.units + 16 * j + 200 < _; omega⟩
theorem roomX {k : Nat} {A : Around} (r : L2H.RoomH k A) : A.units + 64 < cLine := by have := r.un; omega
/-! ### the module's own exception classes: tab tells each one's supers (itself too) -/
abbrev ExTab := List (Str × List Str)
def subT (tab : ExTab) (t c : Str) : Option Bool := (tab.lookup c).map fun sup => sup.contains t
structure Exs (K : PySem.W.Frag) (mg : Str → Option Value) (tab : ExTab) : Prop where
  cls : ∀ c sup, tab.lookup c = some sup → ∃ C, mg c = some (.ref C) ∧ PySem.W.excIn K C He.veBase "ValueError.__new__" = true ∧ PySem.W.keepIn K (.ref C) = true ∧ PySem.W.subIn K (.ref C) (.type "BaseException") = some true ∧ PySem.W.typeIn K (.ref C) = some (.type "type") ∧ ExcC K C ∧
    (∀ t supt, tab.lookup t = some supt → ∃ Ct, mg t = some (.ref Ct) ∧ PySem.W.kitOne K (.ref C) (.ref Ct) = some (sup.contains t) ∧ PySem.W.exmOne K (.ref C) (.ref Ct) = some (sup.contains t)) ∧ PySem.W.kitOne K (.ref C) (.type "ValueError") = some true
/-- the same as a computation -/
def excCB (K : PySem.W.Frag) (D : Addr) : Bool :=
  decide (PySem.W.findIn K (.ref D) "__getattribute__" = some (some (.builtin "BaseException.__getattribute__"))) && (decide (PySem.W.findIn K (.ref D) "__getattr__" = some none) && (PySem.W.hasDictIn K D &&
  (decide (PySem.W.findIn K (.ref D) "__class__" = some (some (.builtin "object.__class__"))) && (decide (PySem.W.specialIn K (.builtin "object.__class__") "__get__" = some (some (.builtin "getset_descriptor.__get__"))) &&
  (decide (PySem.W.takesIn K (.builtin "object.__class__") = some true) && decide (PySem.W.mroIn K D (.type "object") = some true))))))
def exsB (K : PySem.W.Frag) (tab : ExTab) : Bool := tab.all fun p =>
  decide (PySem.W.nsIn K mainGlobals p.1 = some (some (.ref (He.ga K p.1)))) && (PySem.W.excIn K (He.ga K p.1) He.veBase "ValueError.__new__" && (PySem.W.keepIn K (.ref (He.ga K p.1)) && (decide (PySem.W.subIn K (.ref (He.ga K p.1)) (.type "BaseException") = some true) &&
  (decide (PySem.W.typeIn K (.ref (He.ga K p.1)) = some (.type "type")) && (excCB K (He.ga K p.1) && ((tab.all fun q => decide (PySem.W.kitOne K (.ref (He.ga K p.1)) (.ref (He.ga K q.1)) = some (p.2.contains q.1)) && decide (PySem.W.exmOne K (.ref (He.ga K p.1)) (.ref (He.ga K q.1)) = some (p.2.contains q.1))) &&
  decide (PySem.W.kitOne K (.ref (He.ga K p.1)) (.type "ValueError") = some true)))))))
theorem lookup_mem {α β : Type} [BEq α] [LawfulBEq α] {a : α} {b : β} : ∀ {l : List (α × β)}, l.lookup a = some b → (a, b) ∈ l
  | [], h => by simp at h
  | (x, y) :: l, h => by
    rw [List.lookup_cons] at h
    split at h
    · rename_i e
      have := beq_iff_eq.mp e
      cases h; subst this; exact List.mem_cons_self
    · exact List.mem_cons_of_mem _ (lookup_mem h)
theorem exsB_ok {K : PySem.W.Frag} {h : Heap} {mg : Str → Option Value} {tab : ExTab} (X : K.In h) (G : h.Ns mainGlobals mg) (e : exsB K tab = true) : Exs K mg tab := by
  have un := fun (p : Str × List Str) hp => List.all_eq_true.mp e p hp
  refine ⟨fun c sup hc => ?_⟩
  have q := un _ (lookup_mem hc)
  simp only [Bool.and_eq_true, decide_eq_true_eq] at q
  obtain ⟨q1, q2, q3, q4, q5, q6, q7, q8⟩ := q
  unfold excCB at q6
  simp only [Bool.and_eq_true, decide_eq_true_eq] at q6
  obtain ⟨r1, r2, r3, r4, r5, r6, r7⟩ := q6
  refine ⟨_, PySem.W.mg_of X G q1, q2, q3, q4, q5, ⟨r1, r2, q4, r3, r4, r5, r6, r7⟩, fun t supt ht => ?_, q8⟩
  have z := List.all_eq_true.mp q7 _ (lookup_mem ht)
  simp only [Bool.and_eq_true, decide_eq_true_eq] at z
  have zt := un _ (lookup_mem ht)
  simp only [Bool.and_eq_true, decide_eq_true_eq] at zt
  exact ⟨_, PySem.W.mg_of X G zt.1, z.1, z.2⟩
theorem subT_inv {tab : ExTab} {t c : Str} {b : Bool} (h : subT tab t c = some b) : ∃ sup, tab.lookup c = some sup ∧ sup.contains t = b := by
  unfold subT at h
  cases e : tab.lookup c with
  | none => rw [e] at h; cases h
  | some sup => rw [e] at h; cases h; exact ⟨sup, rfl, rfl⟩
theorem Exs.exc {K : PySem.W.Frag} {mg : Str → Option Value} {tab : ExTab} (T : Exs K mg tab) (x : Str) (h : (tab.lookup x).isSome = true) : ExcIn K mg x := by
  obtain ⟨sup, e⟩ := Option.isSome_iff_exists.mp h
  obtain ⟨C, h1, h2, h3, h4, h5, _⟩ := T.cls x sup e
  exact ⟨C, h1, h2, h3, h4, h5⟩
/-- the handled exception, told for a suite -/
structure HotB (X : Cx) (a : Addr) (c : Str) (C : Addr) (oe : Obj) : Prop where
  mg : X.mg c = some (.ref C)
  hx : HotX X a C oe
section
variable {X : Cx} {G : Gh} {W : WX} {rm : Bool} {tab : ExTab}
theorem ds_tryT (i : Nat) {x n : Str} {body suite : List Stmt} {b0 : Stmt} {np pos pos' : Pos} {bm : MS} {sm : Str → MS} (hx : G.ex = none) (hGK : G.m = ⟨X.K, X.mg⟩) (pf : pfree G i) (T : Exs X.K X.mg tab) (hxt : (tab.lookup x).isSome = true) (hg : Gl X x) (hdb : (x == ("__debug__" : Str)) = false)
    (hs : X.stack = X.env :: X.outer) (hf : X.env.frame = some X.env.locals) (hN : X.N.Nodup) (hi : X.N[i]? = some n) (hln : X.env.kindOf n = some .local) (tk : Takes X W)
    (hb : ∀ (W' : WX) (pn : List (Addr × Obj)) (xe : Value → Shared → Prop), Takes (X.tr pn xe) W' → PassesOwn (model X.prog X.w) X.A X.env xe → DSs (X.tr pn xe) G W' rm body bm)
    (hsu : ∀ (a : Addr) (oe : Obj) (C : Addr) (c : Str) (pn : List (Addr × Obj)), HotB (X.suite a ((a, oe) :: pn)) a c C oe → DSs (X.suite a ((a, oe) :: pn)) ⟨G.m, G.H0, G.pr, some (a, c)⟩ W0 rm (b0 :: suite) (sm c)) :
    DS X G W rm (.Try body [.ExceptHandler (some (.Name x np)) (some n) (b0 :: suite) pos'] [] [] pos) (tryM i (subT tab x) bm sm) := by
  obtain ⟨supx, ex⟩ := Option.isSome_iff_exists.mp hxt
  obtain ⟨Cx0, gx, _⟩ := T.cls x supx ex
  exact ds_try (cv := .ref Cx0) i hx hGK pf (fun c C b e1 e2 => by
      obtain ⟨sup, e3, e4⟩ := subT_inv e2
      obtain ⟨C', h1, _, _, _, _, _, h2, _⟩ := T.cls c sup e3
      rw [e1] at h1; cases h1
      obtain ⟨Ct, h3, _, h4⟩ := h2 x supx ex
      rw [gx] at h3; cases h3
      rw [h4, e4]) hs hf hN hi hln ⟨hg, hdb, .inl gx⟩ tk hb
    (fun a oe C c pn e1 _ hz hv => hsu a oe C c pn ⟨e1, ⟨List.mem_cons_self, hz, hv⟩⟩)
theorem de_isEc (i : Nat) {y t : Str} {a C : Addr} {c : Str} {oe : Obj} {p p2 p3 pos : Pos} (hx : HotB X a c C oe) (T : Exs X.K X.mg tab) (ht : (tab.lookup t).isSome = true) (hex : G.ex = some (a, c)) (hgt : Gl X t) (hdt : (t == ("__debug__" : Str)) = false)
    (hg : Gl X "isinstance") (hm : X.mg "isinstance" = none) (hN : X.N[i]? = some y) (hv : Vis X.env.scope y := by first | exact .inl rfl | exact .inr (.inl rfl) | exact .inr (.inr rfl)) (hd : (y == ("__debug__" : Str)) = false := by decide) (hcd : (y == ("__classdict__" : Str)) = false := by decide)
    (hs : starEach [.Name y p2, .Name t p3] X.env = (false, eval (.Name y p2) X.env) :: starEach [.Name t p3] X.env := by rfl) (hs2 : starEach [.Name t p3] X.env = (false, eval (.Name t p3) X.env) :: starEach [] X.env := by rfl) (hpl : (backTo pos (starEach [.Name t p3] X.env)).any (·.1) = false := by rfl) :
    DE X G W (.Call (.Name "isinstance" p) [.Name y p2, .Name t p3] [] pos) (exnM i (fun c => subT tab t c)) := by
  obtain ⟨supt, et⟩ := Option.isSome_iff_exists.mp ht
  obtain ⟨Ct, gt, _⟩ := T.cls t supt et
  by_cases hc : (tab.lookup c).isSome = true
  · obtain ⟨sup, ec⟩ := Option.isSome_iff_exists.mp hc
    obtain ⟨C', h1, _, _, _, _, hE, h2, _⟩ := T.cls c sup ec
    rw [hx.mg] at h1; cases h1
    obtain ⟨Ct', h3, h4, _⟩ := h2 t supt et
    rw [gt] at h3; cases h3
    exact de_isE (cV := .ref Ct) (cv := .ref Ct) i hx.hx hE hex (pe_glob hgt gt rfl hdt) (fun u r => r) (fun b e => by
      unfold subT at e; rw [ec] at e; cases e; exact h4) hg hm hN hv hd hcd hs hs2 hpl
  · refine ⟨fun pins s σ H Q I ⟨ρ, k, q⟩ => ?_⟩
    exfalso
    have e0 : tab.lookup c = none := Option.not_isSome_iff_eq_none.mp hc
    unfold exnM at q
    cases e : ρ[i]? with
    | none => simp only [e] at q; exact q.elim
    | some sl =>
      cases sl with
      | exn c' =>
        simp only [e] at q
        obtain ⟨b, h1, _⟩ := k.exn i c' e
        rw [hex] at h1; cases h1
        simp only [subT, e0, Option.map_none] at q
        exact q.elim
      | no => simp only [e] at q; exact q.elim
      | d x => simp only [e] at q; exact q.elim
      | own x => simp only [e] at q; exact q.elim
/-- isinstance(e, ValueError) -/
theorem de_isEv (i : Nat) {y : Str} {a C : Addr} {c : Str} {oe : Obj} {p p2 p3 pos : Pos} (hx : HotB X a c C oe) (T : Exs X.K X.mg tab) (hex : G.ex = some (a, c)) (hgt : Gl X "ValueError") (hmt : X.mg "ValueError" = none)
    (hg : Gl X "isinstance") (hm : X.mg "isinstance" = none) (hN : X.N[i]? = some y) (hv : Vis X.env.scope y := by first | exact .inl rfl | exact .inr (.inl rfl) | exact .inr (.inr rfl)) (hd : (y == ("__debug__" : Str)) = false := by decide) (hcd : (y == ("__classdict__" : Str)) = false := by decide)
    (hs : starEach [.Name y p2, .Name "ValueError" p3] X.env = (false, eval (.Name y p2) X.env) :: starEach [.Name "ValueError" p3] X.env := by rfl) (hs2 : starEach [.Name "ValueError" p3] X.env = (false, eval (.Name "ValueError" p3) X.env) :: starEach [] X.env := by rfl) (hpl : (backTo pos (starEach [.Name "ValueError" p3] X.env)).any (·.1) = false := by rfl) :
    DE X G W (.Call (.Name "isinstance" p) [.Name y p2, .Name "ValueError" p3] [] pos) (exnM i (fun c => (tab.lookup c).map fun _ => true)) := by
  by_cases hc : (tab.lookup c).isSome = true
  · obtain ⟨sup, ec⟩ := Option.isSome_iff_exists.mp hc
    obtain ⟨C', h1, _, _, _, _, hE, _, h2⟩ := T.cls c sup ec
    rw [hx.mg] at h1; cases h1
    exact de_isE (cV := .ty "ValueError") (cv := .type "ValueError") i hx.hx hE hex (pe_bltn hgt hmt (by decide +kernel) rfl) (fun u r => r) (fun b e => by
      rw [ec] at e; cases e; exact h2) hg hm hN hv hd hcd hs hs2 hpl
  · refine ⟨fun pins s σ H Q I ⟨ρ, k, q⟩ => ?_⟩
    exfalso
    have e0 : tab.lookup c = none := Option.not_isSome_iff_eq_none.mp hc
    unfold exnM at q
    cases e : ρ[i]? with
    | none => simp only [e] at q; exact q.elim
    | some sl =>
      cases sl with
      | exn c' =>
        simp only [e] at q
        obtain ⟨b, h1, _⟩ := k.exn i c' e
        rw [hex] at h1; cases h1
        simp only [e0, Option.map_none] at q
        exact q.elim
      | no => simp only [e] at q; exact q.elim
      | d x => simp only [e] at q; exact q.elim
      | own x => simp only [e] at q; exact q.elim
end
/-! ### a def called with the handled exception -/
structure DFnX (P : Program) (w : World) (K : PySem.W.Frag) (mg : Str → Option Value) (base : Heap) (x : Str) (k : Nat) (md : List Bool) (f : Fn) : Prop where
  ex : ∃ fA fd ps, mg x = some (.ref fA) ∧ PySem.W.keepIn K (.ref fA) = true ∧ Binds K fd ps [] ∧ ∀ (p : Addr × Obj) (c : Str) (C : Addr), mg c = some (.ref C) → Zc (.ref C) none p.2 → (∃ vs, p.2.data = .fields vs) → FnX P w K mg base k fA fd ps p (spX ⟨K, mg⟩ (some (p.1, c)) md false f)
theorem dfnx_ok {P : Program} {w : World} {K : PySem.W.Frag} {mg : Str → Option Value} {base : Heap} {x : Str} {st : Stmt} {fA : Addr} {fd : FuncData} {k : Nat} {N ps : List Str} {md : List Bool} {bm : MS} (Dn : DefIn K mg x st fA fd) (S : FnScope N ps (defScope st)) (hmd : md.length = ps.length) (hb : BindsF x st ps)
    (D : ∀ (p : Addr × Obj) (c : Str) (C : Addr) (cdv : Value) (A : Around) (outer : List PySem.Env) (s : Shared) (H : Hp) (E : XK) (H0 : Hp) (pr : List (Nat × Addr)), (∀ i, md.getD i false = false → pfree ⟨⟨K, mg⟩, H0, pr, some (p.1, c)⟩ i) → L2H.RoomH k (A.deeper (envOfC x (defScope st) s.heap.objs.size fA cdv)) →
      HotB (cxX P w K mg base N x (defScope st) fA cdv A outer s H E p) p.1 c C p.2 → DSs (cxX P w K mg base N x (defScope st) fA cdv A outer s H E p) ⟨⟨K, mg⟩, H0, pr, some (p.1, c)⟩ W0 false (defBody st) bm) :
    DFnX P w K mg base x (k + 1) md (fnM false N.length bm) := by
  obtain ⟨h1, F⟩ := Dn
  exact ⟨fA, fd, ps, h1, F.kp, F.bindsN hb, fun p c C e1 e2 e3 => fnx_ok F S hmd fun cdv A outer s H E H0 pr pf hr => D p c C cdv A outer s H E H0 pr pf hr ⟨e1, ⟨List.mem_singleton.mpr rfl, e2, e3⟩⟩⟩
section
variable {X : Cx} {G : Gh} {e : Expr} {es : List Expr} {pos p : Pos} {x : Str} {j : Nat} {md : List Bool} {f : Fn} {fa : M (List Ag)}
theorem de_callsX {a C : Addr} {c : Str} {oe : Obj} (hx : HotB X a c C oe) (hex : G.ex = some (a, c)) (hm0 : G.m = ⟨X.K, X.mg⟩) (Cl : DFnX X.prog X.w X.K X.mg X.base x j md f) (hr : L2H.RoomH j X.A) (hg : Gl X x) (ha : DG X G W0 (e :: es) fa) (hdb : (x == ("__debug__" : Str)) = false := by decide) (he : starEach (e :: es) X.env = (false, eval e X.env) :: starEach es X.env := by rfl) (hpl : (backTo pos (starEach es X.env)).any (·.1) = false := by rfl) :
    DE X G W0 (.Call (.Name x p) (e :: es) [] pos) (callM f (mdM md fa)) := by
  obtain ⟨fA, fd, ps, h1, h2, h3, h4⟩ := Cl.ex
  have F := h4 (a, oe) c C hx.mg hx.hx.zc hx.hx.fl
  rw [← hex] at F
  exact de_callX hm0 hx.hx.pn F hr hg h1 h2 h3 ha hdb he hpl
/-- len of an own list -/
def lenO (i : Nat) : M D := bindM (getO i) fun xs => pureM (.int xs.length)
theorem de_lenO {W : WX} (i : Nat) {y : Str} {q2 : Pos} (hg : Gl X "len") (hm : X.mg "len" = none) (hN : X.N[i]? = some y) (hv : Vis X.env.scope y := by first | exact .inl rfl | exact .inr (.inl rfl) | exact .inr (.inr rfl)) (hd : (y == ("__debug__" : Str)) = false := by decide) (hcd : (y == ("__classdict__" : Str)) = false := by decide)
    (he : starEach [.Name y q2] X.env = (false, eval (.Name y q2) X.env) :: starEach [] X.env := by rfl) (hpl : (backTo pos (starEach [] X.env)).any (·.1) = false := by rfl) : DE X G W (.Call (.Name "len" p) [.Name y q2] [] pos) (lenO i) :=
  pe_imp (pe_callB call_len hg hm (by decide +kernel) (pa_cons (pe_var (i := i) hN hv hd hcd) pa_nil he) (by decide) (by decide) he hpl) fun σ H Q ⟨ρ, k, q⟩ => by
    obtain ⟨xs, e0, q⟩ := getO_run q
    obtain ⟨a, vs, h1, h2, h3, _⟩ := k.own i xs e0
    refine ⟨_, h1, _, _, rfl, .inl ⟨vs, SqL.of h2, rfl⟩, ?_⟩
    rw [h3.len]; exact q H Stable.rfl k _ (.int _)
end
end DL
end
section
namespace DL
open PySem PySem.Spec L2
open PyProof.Rows hiding St

/-! ### the head: the facts of HeadHook2 and one computation more -/
abbrev AlE : Type := He.AlD × Bool
def obsE (n : Nat) (fa : List He.Fa) (fn : List He.DefD) (xt : PySem.W.Frag → Bool) (g : Addr → Option Obj) : AlE := (He.obsDG n fa fn g, xt (He.frG g (He.asD g n)))
def hookE (n : Nat) (fa : List He.Fa) (fn : List He.DefD) (xt : PySem.W.Frag → Bool) : PySem.W.Hook where
  α := AlE
  obs := fun s => obsE n fa fn xt s.heap.get?
  val := fun _ => (He.valD fn, true)
  says := fun _ h => ∃ K : PySem.W.Frag, K.In h ∧ He.SaysD fa fn K ∧ xt K = true
  of := fun _ s e => ⟨He.frG s.heap.get? (He.asD s.heap.get? n), He.frG_in, congrArg (fun z : AlE => z.1) e, congrArg (fun z : AlE => z.2) e⟩
  keeps := fun _ _ _ ⟨K, h1, h2, h3⟩ k => ⟨K, PySem.W.Frag.In.keeps h1 k, h2, h3⟩
theorem obsE_eq {n : Nat} {fa : List He.Fa} {fn : List He.DefD} {xt : PySem.W.Frag → Bool} {g : Addr → Option Obj} {s : Shared} (h : ∀ a, g a = s.heap.get? a) : obsE n fa fn xt g = (hookE n fa fn xt).obs s := by
  rw [show g = s.heap.get? from funext h]; rfl
/-- the lists of the written part have no slots -/
def slotsB (K : PySem.W.Frag) : Bool := K.all fun p => match p.2.cls with
  | .type c => c != "list" || p.2.slots.isEmpty
  | _ => true
theorem slotsB_ok {K : PySem.W.Frag} (h : slotsB K = true) {a : Addr} {o : Obj} (e : K.lookup a = some o) (c : o.cls = .type "list") : o.slots = #[] := by
  have q := List.all_eq_true.mp h _ (lookup_mem e)
  simp only [c, Bool.or_eq_true] at q
  rcases q with q | q
  · simp at q
  · exact Array.isEmpty_iff.mp q
theorem script_ok {m : Md} {H : Hp} {a : Addr} {ns : List Int} (hs : slotsB m.K = true) (hO : Only H) (h : SqL m.K H a (ns.map V.int)) : Rep m H (.ref a) (.lst (ns.map D.int)) := by
  have r : RepL m H (ns.map V.int) (ns.map D.int) := by
    induction ns with
    | nil => exact .nil
    | cons n ns ih =>
      refine .cons (.int n) ?_
      clear h ih
      induction ns with
      | nil => exact .nil
      | cons n ns ih => exact .cons (.int n) ih
  refine .lst ?_ r
  rcases h with (h | ⟨o, h⟩) | ⟨o, its, n, h1, h2, h3, h4, h5, h6⟩
  · rcases hO a with e | ⟨o, xs, e⟩
    · rw [h] at e; cases e
    · rw [h] at e; cases e
  · exact .inl ⟨o, h⟩
  · have z := slotsB_ok hs h1 h2
    obtain ⟨oc, od, dt, sl⟩ := o
    dsimp only at h2 h3 h4 z
    subst h2; subst h3; subst h4; subst z
    exact .inr ⟨its, n, h1, h5, h6⟩
/-- the law's promise from the mirror's answer -/
theorem law_sp {m : Md} {f : Fn} {H : Hp} {a : Addr} {ns : List Int} (hs : slotsB m.K = true) (hO : Only H) (h : SqL m.K H a (ns.map V.int)) (e : f [.d (.lst (ns.map D.int))] = .ok (.bl true) []) : spD m none [false] false f [.ref a] H (fun v _ => v = .bl true) fun _ _ _ => False := by
  refine ⟨[.d (.lst (ns.map D.int))], rfl, ⟨rfl, fun i x h => ?_, fun i xs h => ?_, fun i j xs ys b ne h => ?_, fun i c h => ?_⟩, ?_⟩
  · cases i with
    | zero => simp at h; subst h; exact ⟨_, rfl, script_ok hs hO ‹_›⟩
    | succ i => simp at h
  · cases i <;> simp at h
  · cases i <;> simp at h
  · cases i <;> simp at h
  · rw [e]
    intro v H' _ _ _ r
    cases r; rfl
theorem walk_ofX {l : PySem.W.OpenLaw} {n k : Nat} {q : Program} {loose : List Str} {XP : (Str → Option Value) → Heap → Prop} {YP : World → Heap → Prop} {d : DefRec} {CX : World → CXT} {x : Str} (hn : l.most = some n) (hn2 : n ≤ sizeLine) (hdf : d.params.defaults = []) (hr : Room k callerA)
    (F : ∀ (w : World) (mg : Str → Option Value) (fa : Addr) (h : Heap), YP w h → h.Ns mainGlobals mg → mg d.name = some (.ref fa) → ∃ (K : PySem.W.Frag) (fd : FuncData) (sp : Sp), K.In h ∧ (∀ (s : Shared) (u : Value), BindsTo s fd ⟨[u], []⟩ [(x, u)]) ∧
      (∀ (H : Hp) (a : Addr) (ns : List Int), ns.length ≤ n → Only H → SqL K H a (ns.map V.int) → sp [.ref a] H (fun v _ => v = .bl true) fun _ _ _ => False) ∧ ∀ base : Heap, K.In base → base.Ns mainGlobals mg → FnOk l.prog w K mg base (CX w) k fa fd [x] sp)
    (hCX : ∀ (w : World) (H : Hp) (s : Shared) (e : Value) (s' : Shared), CX w [] H s (fun _ _ _ => False) e s' → False) : PySem.W.WalkO q loose XP YP l.row.toRowW d [] (fun f vs => PySem.call f vs) := by
  refine Att.attach_call hn hdf fun w t0 t1 mg mb fa o pm cd doc a vs ns Gr Y e1 e2 e3 hmg e4 e5 hlen e6 => ?_
  obtain ⟨K, fd, sp, hK, hb, hsp, hF⟩ := F w mg fa _ Y Gr.T.g hmg
  exact law_call hK Gr.T.g Gr.T.b Gr.T.builtins Gr.T.nolimit e6 e4 e5 (Nat.le_trans hlen hn2) hr hF hb (fun H h1 h2 => hsp H a ns hlen h1 h2) fun H e s' => hCX w H t1 e s'
theorem cx_none {P : Program} {w : World} {H : Hp} {s : Shared} {e : Value} {s' : Shared} (h : L2.CX P w [] H s (fun _ _ _ => False) e s') : False := by
  obtain ⟨_, _, _, _, _, _, _, _, _, _, _, _, hE⟩ := h
  exact hE
/-- a def of the text from the head's facts -/
theorem def_in {fa : List He.Fa} {fn : List He.DefD} {K : PySem.W.Frag} {h : Heap} {mg : Str → Option Value} (X : K.In h) (G : h.Ns mainGlobals mg) (c : He.SaysD fa fn K) {x : Str} {st : Stmt} (i j : Nat) (hi : fn[i]? = some ⟨(x, none), x, x, defArgs st, defBody st, defScope st, [], []⟩) (hj : fa[j]? = some (.glo x)) : ∃ fd, DefIn K mg x st (He.ga K x) fd := by
  obtain ⟨fd, F⟩ := c.def_ i hi
  exact ⟨fd, He.glo_ok X G (c.fact j hj), F⟩
end DL
end
section
namespace DL
open PySem PySem.Spec L2
open PyProof.Rows hiding St

/-! ### the monad run at a state -/
section
variable {α β : Type} {ρ : DL.Env}
@[simp] theorem pureM_ap (x : α) : pureM x ρ = .ok x ρ := rfl
@[simp] theorem bindM_ap (a : M α) (k : α → M β) : bindM a k ρ = (match a ρ with | .ok x ρ' => k x ρ' | .exc c ρ' => .exc c ρ' | .stuck => .stuck) := rfl
@[simp] theorem stuckM_ap : (stuckM : M α) ρ = .stuck := rfl
@[simp] theorem liftM_some (x : α) : liftM (some x) ρ = .ok x ρ := rfl
@[simp] theorem liftM_none : liftM (none : Option α) ρ = .stuck := rfl
@[simp] theorem getM_ap (i : Nat) : getM i ρ = (match ρ[i]? with | some (.d x) => .ok x ρ | _ => .stuck) := rfl
@[simp] theorem rdM_ap (i : Nat) : rdM i ρ = (match ρ[i]? with | some (.d x) => .ok x ρ | some (.own xs) => .ok (.lst xs) (ρ.set i (.d (.lst xs))) | _ => .stuck) := rfl
@[simp] theorem getO_ap (i : Nat) : getO i ρ = (match ρ[i]? with | some (.own xs) => .ok xs ρ | _ => .stuck) := rfl
@[simp] theorem putO_ap (i : Nat) (xs : List D) : putO i xs ρ = .ok () (ρ.set i (.own xs)) := rfl
@[simp] theorem haveS_ap (i : Nat) : haveS i ρ = (match ρ[i]? with | some (.own _) => .ok () ρ | some (.exn _) => .ok () ρ | _ => .stuck) := rfl
@[simp] theorem op2_ap (g : D → D → Option D) (fa fb : M D) : op2 g fa fb ρ = (match fa ρ with | .ok x ρ1 => (match fb ρ1 with | .ok y ρ2 => liftM (g x y) ρ2 | .exc c ρ' => .exc c ρ' | .stuck => .stuck) | .exc c ρ' => .exc c ρ' | .stuck => .stuck) := by
  unfold op2 bindM
  cases fa ρ with
  | ok x r1 =>
    dsimp only
    cases fb r1 <;> rfl
  | _ => rfl
@[simp] theorem opO_ap (i : Nat) (g : List D → D → Option D) (fb : M D) : opO i g fb ρ = (match fb ρ with | .ok y ρ1 => (match getO i ρ1 with | .ok xs ρ2 => liftM (g xs y) ρ2 | .exc c ρ' => .exc c ρ' | .stuck => .stuck) | .exc c ρ' => .exc c ρ' | .stuck => .stuck) := by
  unfold opO bindM
  cases fb ρ with
  | ok x r1 =>
    dsimp only
    cases getO i r1 <;> rfl
  | _ => rfl
@[simp] theorem boolM_ap (f : M D) : boolM f ρ = (match f ρ with | .ok (.bl b) ρ' => .ok b ρ' | .ok _ _ => .stuck | .exc c ρ' => .exc c ρ' | .stuck => .stuck) := by
  unfold boolM bindM
  cases e : f ρ with
  | ok d ρ' => cases d <;> rfl
  | _ => rfl
@[simp] theorem andM_ap (f g : M Bool) : andM f g ρ = (match f ρ with | .ok true ρ' => g ρ' | .ok false ρ' => .ok false ρ' | .exc c ρ' => .exc c ρ' | .stuck => .stuck) := by
  unfold andM bindM
  cases e : f ρ with
  | ok d ρ' => cases d <;> rfl
  | _ => rfl
@[simp] theorem orM_ap (f g : M Bool) : orM f g ρ = (match f ρ with | .ok true ρ' => .ok true ρ' | .ok false ρ' => g ρ' | .exc c ρ' => .exc c ρ' | .stuck => .stuck) := by
  unfold orM bindM
  cases e : f ρ with
  | ok d ρ' => cases d <;> rfl
  | _ => rfl
@[simp] theorem notM_ap (f : M Bool) : notM f ρ = (match f ρ with | .ok b ρ' => .ok (!b) ρ' | .exc c ρ' => .exc c ρ' | .stuck => .stuck) := by
  unfold notM bindM
  cases f ρ <;> rfl
@[simp] theorem andV_ap (f g : M D) : andV f g ρ = (match f ρ with | .ok (.bl true) ρ' => g ρ' | .ok (.bl false) ρ' => .ok (.bl false) ρ' | .ok _ _ => .stuck | .exc c ρ' => .exc c ρ' | .stuck => .stuck) := by
  unfold andV bindM
  cases e : f ρ with
  | ok d ρ' => cases d with
    | bl b => cases b <;> rfl
    | _ => rfl
  | _ => rfl
@[simp] theorem orV_ap (f g : M D) : orV f g ρ = (match f ρ with | .ok (.bl true) ρ' => .ok (.bl true) ρ' | .ok (.bl false) ρ' => g ρ' | .ok _ _ => .stuck | .exc c ρ' => .exc c ρ' | .stuck => .stuck) := by
  unfold orV bindM
  cases e : f ρ with
  | ok d ρ' => cases d with
    | bl b => cases b <;> rfl
    | _ => rfl
  | _ => rfl
@[simp] theorem notV_ap (f : M D) : notV f ρ = (match f ρ with | .ok (.bl b) ρ' => .ok (.bl (!b)) ρ' | .ok _ _ => .stuck | .exc c ρ' => .exc c ρ' | .stuck => .stuck) := by
  unfold notV bindM
  cases e : f ρ with
  | ok d ρ' => cases d <;> rfl
  | _ => rfl
@[simp] theorem isN_ap (f : M D) : isN f ρ = (match f ρ with | .ok d ρ' => .ok (.bl (isNb d)) ρ' | .exc c ρ' => .exc c ρ' | .stuck => .stuck) := by
  unfold isN bindM
  cases f ρ <;> rfl
@[simp] theorem notN_ap (f : M D) : notN f ρ = (match f ρ with | .ok d ρ' => .ok (.bl (!isNb d)) ρ' | .exc c ρ' => .exc c ρ' | .stuck => .stuck) := by
  unfold notN bindM
  cases f ρ <;> rfl
@[simp] theorem negM_ap (f : M D) : negM f ρ = (match f ρ with | .ok (.int i) ρ' => .ok (.int (-i)) ρ' | .ok _ _ => .stuck | .exc c ρ' => .exc c ρ' | .stuck => .stuck) := by
  unfold negM bindM
  cases e : f ρ with
  | ok d ρ' => cases d <;> rfl
  | _ => rfl
@[simp] theorem iteM_ap (c : M Bool) (f g : M α) : iteM c f g ρ = (match c ρ with | .ok true ρ' => f ρ' | .ok false ρ' => g ρ' | .exc c ρ' => .exc c ρ' | .stuck => .stuck) := by
  unfold iteM bindM
  cases e : c ρ with
  | ok d ρ' => cases d <;> rfl
  | _ => rfl
@[simp] theorem consM_ap (f : M D) (g : M (List D)) : consM f g ρ = (match f ρ with | .ok x ρ1 => (match g ρ1 with | .ok xs ρ2 => .ok (x :: xs) ρ2 | .exc c ρ' => .exc c ρ' | .stuck => .stuck) | .exc c ρ' => .exc c ρ' | .stuck => .stuck) := by
  unfold consM bindM
  cases f ρ with
  | ok x r1 =>
    dsimp only
    cases g r1 <;> rfl
  | _ => rfl
@[simp] theorem consA_ap (f : M D) (g : M (List Ag)) : consA f g ρ = (match f ρ with | .ok x ρ1 => (match g ρ1 with | .ok xs ρ2 => .ok (.d x :: xs) ρ2 | .exc c ρ' => .exc c ρ' | .stuck => .stuck) | .exc c ρ' => .exc c ρ' | .stuck => .stuck) := by
  unfold consA bindM
  cases f ρ with
  | ok x r1 =>
    dsimp only
    cases g r1 <;> rfl
  | _ => rfl
@[simp] theorem consS_ap (i : Nat) (g : M (List Ag)) : consS i g ρ = (match g ρ with | .ok xs ρ2 => .ok (.sl i :: xs) ρ2 | .exc c ρ' => .exc c ρ' | .stuck => .stuck) := by
  unfold consS bindM
  cases g ρ <;> rfl
@[simp] theorem lstM_ap (f : M (List D)) : lstM f ρ = (match f ρ with | .ok xs ρ2 => .ok (.lst xs) ρ2 | .exc c ρ' => .exc c ρ' | .stuck => .stuck) := by
  unfold lstM bindM
  cases f ρ <;> rfl
@[simp] theorem sizeM_ap (f : M (List D)) : sizeM f ρ = (match f ρ with | .ok xs ρ2 => if xs.length ≤ sizeLine then .ok xs ρ2 else .stuck | .exc c ρ' => .exc c ρ' | .stuck => .stuck) := by
  unfold sizeM bindM
  cases e : f ρ with
  | ok d ρ' =>
    show (if d.length ≤ sizeLine then pureM d else stuckM) ρ' = if d.length ≤ sizeLine then .ok d ρ' else .stuck
    split <;> rfl
  | _ => rfl
@[simp] theorem tupM_ap (f : M (List D)) : tupM f ρ = (match f ρ with | .ok xs ρ2 => if xs.length ≤ sizeLine then .ok (.tup xs) ρ2 else .stuck | .exc c ρ' => .exc c ρ' | .stuck => .stuck) := by
  unfold tupM bindM
  rw [sizeM_ap]
  cases e : f ρ with
  | ok d ρ' =>
    dsimp only
    by_cases h : d.length ≤ sizeLine
    · simp only [h, if_true]; rfl
    · simp only [h, if_false]
  | _ => rfl
@[simp] theorem callD_ap (g : List D → Option D) (f : M (List D)) : callD g f ρ = (match f ρ with | .ok xs ρ2 => liftM (g xs) ρ2 | .exc c ρ' => .exc c ρ' | .stuck => .stuck) := by
  unfold callD bindM
  cases f ρ <;> rfl
@[simp] theorem callO_ap (g : List D → Option (List D)) (f : M (List D)) : callO g f ρ = (match f ρ with | .ok xs ρ2 => liftM (g xs) ρ2 | .exc c ρ' => .exc c ρ' | .stuck => .stuck) := by
  unfold callO bindM
  cases f ρ <;> rfl
@[simp] theorem itemsM_ap (f : M D) : itemsM f ρ = (match f ρ with | .ok d ρ2 => liftM (itemsOf d) ρ2 | .exc c ρ' => .exc c ρ' | .stuck => .stuck) := by
  unfold itemsM bindM
  cases f ρ <;> rfl
@[simp] theorem rg1M_ap (f : M (List D)) : rg1M f ρ = (match f ρ with | .ok d ρ2 => liftM (rg1 d) ρ2 | .exc c ρ' => .exc c ρ' | .stuck => .stuck) := by
  unfold rg1M bindM
  cases f ρ <;> rfl
@[simp] theorem rg2M_ap (f : M (List D)) : rg2M f ρ = (match f ρ with | .ok d ρ2 => liftM (rg2 d) ρ2 | .exc c ρ' => .exc c ρ' | .stuck => .stuck) := by
  unfold rg2M bindM
  cases f ρ <;> rfl
@[simp] theorem isiM_ap (T : String) (f : M D) : isiM T f ρ = (match f ρ with | .ok d ρ2 => liftM ((isTy T d).map D.bl) ρ2 | .exc c ρ' => .exc c ρ' | .stuck => .stuck) := by
  unfold isiM bindM
  cases f ρ <;> rfl
@[simp] theorem lenO_ap (i : Nat) : lenO i ρ = (match ρ[i]? with | some (.own xs) => .ok (.int xs.length) ρ | _ => .stuck) := by
  unfold lenO
  rw [bindM_ap, getO_ap]
  cases e : ρ[i]? with
  | none => rfl
  | some s => cases s <;> rfl
@[simp] theorem mtV_ap (T : String) (g : D → List D → Option D) (fo : M D) (fa : M (List D)) : mtV T g fo fa ρ = (match fo ρ with | .ok d ρ1 => if tyD T d = true then (match fa ρ1 with | .ok xs ρ2 => liftM (g d xs) ρ2 | .exc c ρ' => .exc c ρ' | .stuck => .stuck) else .stuck | .exc c ρ' => .exc c ρ' | .stuck => .stuck) := by
  unfold mtV tyM bindM
  cases e : fo ρ with
  | ok d ρ1 =>
    dsimp only
    by_cases h : tyD T d = true
    · simp only [h, if_true, pureM_ap]
      cases fa ρ1 <;> rfl
    · simp only [h]; rfl
  | _ => rfl
@[simp] theorem mtO_ap (i : Nat) (g : List D → List D → Option (D × List D)) (f : M (List D)) : mtO i g f ρ = (match getO i ρ with | .ok _ ρ0 => (match f ρ0 with | .ok ds ρ1 => (match getO i ρ1 with | .ok xs ρ2 => (match g xs ds with | some z => .ok z.1 (ρ2.set i (.own z.2)) | none => .stuck) | .exc c ρ' => .exc c ρ' | .stuck => .stuck) | .exc c ρ' => .exc c ρ' | .stuck => .stuck) | .exc c ρ' => .exc c ρ' | .stuck => .stuck) := by
  unfold mtO
  simp only [bindM_ap]
  cases e : getO i ρ with
  | ok x ρ0 =>
    dsimp only
    cases e2 : f ρ0 with
    | ok ds ρ1 =>
      dsimp only
      cases e3 : getO i ρ1 with
      | ok xs ρ2 =>
        dsimp only
        cases g xs ds <;> rfl
      | _ => rfl
    | _ => rfl
  | _ => rfl
/-! statements -/
@[simp] theorem seqM_ap (a b : MS) : seqM a b ρ = (match a ρ with | .ok .nx ρ' => b ρ' | r => r) := rfl
@[simp] theorem skipM_ap : skipM ρ = .ok .nx ρ := rfl
@[simp] theorem setM_ap (i : Nat) (f : M D) : setM i f ρ = (match f ρ with | .ok d ρ' => .ok .nx (ρ'.set i (.d d)) | .exc c ρ' => .exc c ρ' | .stuck => .stuck) := by
  unfold setM bindM
  cases f ρ <;> rfl
@[simp] theorem setOM_ap (i : Nat) (f : M (List D)) : setOM i f ρ = (match f ρ with | .ok d ρ' => .ok .nx (ρ'.set i (.own d)) | .exc c ρ' => .exc c ρ' | .stuck => .stuck) := by
  unfold setOM bindM
  cases f ρ <;> rfl
@[simp] theorem dropM_ap (f : M D) : dropM f ρ = (match f ρ with | .ok d ρ' => .ok .nx ρ' | .exc c ρ' => .exc c ρ' | .stuck => .stuck) := by
  unfold dropM bindM
  cases f ρ <;> rfl
@[simp] theorem retM_ap (f : M D) : retM f ρ = (match f ρ with | .ok d ρ' => .ok (.ret d) ρ' | .exc c ρ' => .exc c ρ' | .stuck => .stuck) := by
  unfold retM bindM
  cases f ρ <;> rfl
@[simp] theorem retOM_ap (f : M (List D)) : retOM f ρ = (match f ρ with | .ok d ρ' => .ok (.ret (.lst d)) ρ' | .exc c ρ' => .exc c ρ' | .stuck => .stuck) := by
  unfold retOM bindM
  cases f ρ <;> rfl
@[simp] theorem ifM_ap (c : M Bool) (a b : MS) : ifM c a b ρ = (match c ρ with | .ok true ρ' => a ρ' | .ok false ρ' => b ρ' | .exc c ρ' => .exc c ρ' | .stuck => .stuck) := by
  unfold ifM bindM
  cases e : c ρ with
  | ok d ρ' => cases d <;> rfl
  | _ => rfl
@[simp] theorem raiseM_ap (c : Str) : raiseM c ρ = .exc c ρ := rfl
@[simp] theorem giveM_ap (i : Nat) : giveM i ρ = (match ρ[i]? with | some (.own xs) => .ok xs (ρ.set i .no) | _ => .stuck) := by
  unfold giveM
  rw [bindM_ap, getO_ap]
  cases e : ρ[i]? with
  | none => rfl
  | some s => cases s <;> rfl
@[simp] theorem setIM_ap (i : Nat) (fk fe : M D) : setIM i fk fe ρ = (match fe ρ with | .ok d ρ1 => (match getO i ρ1 with | .ok _ ρ2 => (match fk ρ2 with | .ok z ρ3 => (match getO i ρ3 with | .ok xs ρ4 => (match ixSet xs z d with | some ys => .ok .nx (ρ4.set i (.own ys)) | none => .stuck) | .exc c ρ' => .exc c ρ' | .stuck => .stuck) | .exc c ρ' => .exc c ρ' | .stuck => .stuck) | .exc c ρ' => .exc c ρ' | .stuck => .stuck) | .exc c ρ' => .exc c ρ' | .stuck => .stuck) := by
  unfold setIM
  simp only [bindM_ap]
  cases e : fe ρ with
  | ok d ρ1 =>
    dsimp only
    cases e2 : getO i ρ1 with
    | ok x ρ2 =>
      dsimp only
      cases e3 : fk ρ2 with
      | ok z ρ3 =>
        dsimp only
        cases e4 : getO i ρ3 with
        | ok xs ρ4 =>
          dsimp only
          cases ixSet xs z d <;> rfl
        | _ => rfl
      | _ => rfl
    | _ => rfl
  | _ => rfl
@[simp] theorem forD_ap (it : M (List D)) (tg : TgF) (body : MS) : forD it tg body ρ = (match it ρ with | .ok xs ρ' => forM tg body xs ρ' | .exc c ρ' => .exc c ρ' | .stuck => .stuck) := by
  unfold forD bindM
  cases it ρ <;> rfl
@[simp] theorem asgM_ap (f : M D) (t : TgF) : asgM f t ρ = (match f ρ with | .ok d ρ' => (match t d ρ' with | some ρ2 => .ok .nx ρ2 | none => .stuck) | .exc c ρ' => .exc c ρ' | .stuck => .stuck) := by
  unfold asgM bindM
  cases f ρ <;> rfl
@[simp] theorem tgN_ap (i : Nat) (d : D) : tgN i d ρ = some (ρ.set i (.d d)) := rfl
@[simp] theorem callM_ap (f : Fn) (fa : M (List Ag)) : callM f fa ρ = (match fa ρ with | .ok ags ρ1 => if (slots ags).Nodup then (match f (ags.map (toSl ρ1)) with | .ok d os => .ok d (putBack ags os ρ1) | .exc c os => .exc c (putBack ags os ρ1) | .stuck => .stuck) else .stuck | .exc c ρ' => .exc c ρ' | .stuck => .stuck) := by
  unfold callM bindM
  cases fa ρ <;> rfl
@[simp] theorem callL_ap (f : Fn) (fa : M (List Ag)) : callL f fa ρ = (match callM f fa ρ with | .ok (.lst ds) ρ' => .ok ds ρ' | .ok _ _ => .stuck | .exc c ρ' => .exc c ρ' | .stuck => .stuck) := by
  unfold callL
  rw [bindM_ap]
  cases e : callM f fa ρ with
  | ok d ρ' => cases d <;> rfl
  | _ => rfl
@[simp] theorem mdM_ap (md : List Bool) (fa : M (List Ag)) : mdM md fa ρ = (match fa ρ with | .ok ags ρ1 => if (ags.map (toSl ρ1)).map isOwn = md then .ok ags ρ1 else .stuck | .exc c ρ' => .exc c ρ' | .stuck => .stuck) := by
  unfold mdM bindM
  cases fa ρ <;> rfl
@[simp] theorem exnM_ap (i : Nat) (g : Str → Option Bool) : exnM i g ρ = (match ρ[i]? with | some (.exn c) => (match g c with | some b => .ok (.bl b) ρ | none => .stuck) | _ => .stuck) := rfl
@[simp] theorem tryM_ap (i : Nat) (sub : Str → Option Bool) (body : MS) (suite : Str → MS) : tryM i sub body suite ρ = (match body ρ with
  | .exc c ρ1 => (match sub c with
    | some true => (match suite c (ρ1.set i (.exn c)) with
      | .ok fl ρ2 => if noExn (ρ2.set i .no) = true then .ok fl (ρ2.set i .no) else .stuck
      | _ => .stuck)
    | some false => .exc c ρ1
    | none => .stuck)
  | r => r) := by
  unfold tryM
  cases e : body ρ <;> rfl
@[simp] theorem compO_ap (it : M (List D)) (tg : TgF) (tt : M Bool) (te : M D) (vs : List Nat) : compO it tg tt te vs ρ = (match it ρ with | .ok xs ρ1 => if plainB vs ρ1 = true then (match compGo tg tt te vs [] xs (wipeE ρ1 vs) with | .ok ys ρ' => .ok ys (restE ρ1 ρ' vs) | _ => .stuck) else .stuck | .exc c ρ' => .exc c ρ' | .stuck => .stuck) := by
  unfold compO bindM
  cases it ρ <;> rfl
end
@[simp] theorem fnM_ap (rm : Bool) (n : Nat) (body : MS) (ρ : DL.Env) : fnM rm n body ρ = (match body (ρ ++ List.replicate (n - ρ.length) .no) with
  | .ok .nx ρ' => if rm = true then .stuck else .ok .non (collect ρ ρ')
  | .ok (.ret d) ρ' => .ok d (collect ρ ρ')
  | .exc c ρ' => .exc c (collect ρ ρ')
  | _ => .stuck) := by
  unfold fnM
  cases e : body (ρ ++ List.replicate (n - ρ.length) .no) with
  | ok fl ρ' => cases fl <;> rfl
  | _ => rfl
@[simp] theorem toSl_d (ρ : DL.Env) (x : D) : toSl ρ (.d x) = .d x := rfl
@[simp] theorem toSl_s (ρ : DL.Env) (i : Nat) : toSl ρ (.sl i) = ρ.getD i .no := rfl
@[simp] theorem slots_nil : slots [] = [] := rfl
@[simp] theorem slots_d (x : D) (r : List Ag) : slots (.d x :: r) = slots r := rfl
@[simp] theorem slots_s (i : Nat) (r : List Ag) : slots (.sl i :: r) = i :: slots r := rfl
@[simp] theorem isOwn_d (x : D) : isOwn (.d x) = false := rfl
@[simp] theorem isOwn_o (x : List D) : isOwn (.own x) = true := rfl
@[simp] theorem isOwn_e (c : Str) : isOwn (.exn c) = false := rfl
@[simp] theorem putBack_nil (os : List (List D)) (ρ : DL.Env) : putBack [] os ρ = ρ := rfl
@[simp] theorem putBack_d (x : D) (r : List Ag) (os : List (List D)) (ρ : DL.Env) : putBack (.d x :: r) os ρ = putBack r os ρ := rfl
@[simp] theorem collect_nil (b : DL.Env) : collect [] b = [] := by cases b <;> rfl
@[simp] theorem collect_d (x : D) (a : DL.Env) (s : Sl) (b : DL.Env) : collect (.d x :: a) (s :: b) = collect a b := by cases s <;> rfl
@[simp] theorem collect_o (x : List D) (a : DL.Env) (y : List D) (b : DL.Env) : collect (.own x :: a) (.own y :: b) = y :: collect a b := rfl
@[simp] theorem collect_e (c : Str) (a : DL.Env) (s : Sl) (b : DL.Env) : collect (.exn c :: a) (s :: b) = collect a b := by cases s <;> rfl
/-! ### values -/
@[simp] theorem le_size (n : Nat) (h : n ≤ 1000) : n ≤ sizeLine := by rw [sizeLine_eq]; omega
@[simp] theorem okD_non : okD .non = true := by decide
@[simp] theorem okD_bl (b : Bool) : okD (.bl b) = true := by cases b <;> decide
@[simp] theorem okD_int (i : Int) : okD (.int i) = true := by simp [okD, toPy, SeqAt.shaped, PyData.canLay0, PyData.depth]
@[simp] theorem eqv_int (i j : Int) : eqvD (.int i) (.int j) = (i == j) := by simp [eqvD, toPy, PyData.eqv]
@[simp] theorem eqv_bl (i j : Bool) : eqvD (.bl i) (.bl j) = (i == j) := by simp [eqvD, toPy, PyData.eqv]
@[simp] theorem eqv_str (i j : Str) : eqvD (.str i) (.str j) = (i == j) := by simp [eqvD, toPy, PyData.eqv]
theorem eqD_ok {a b : D} (ha : okD a = true) (hb : okD b = true) : eqD a b = some (.bl (eqvD a b)) := by simp [eqD, ha, hb]
theorem neD_ok {a b : D} (ha : okD a = true) (hb : okD b = true) : neD a b = some (.bl (!eqvD a b)) := by simp [neD, ha, hb]
@[simp] theorem eqD_int (i j : Int) : eqD (.int i) (.int j) = some (.bl (i == j)) := by simp [eqD]
@[simp] theorem neD_int (i j : Int) : neD (.int i) (.int j) = some (.bl (!(i == j))) := by simp [neD]
@[simp] theorem intD_int (f : Int → Int → Option D) (i j : Int) : intD f (.int i) (.int j) = f i j := rfl
@[simp] theorem subD_int (i j : Int) : subD (.int i) (.int j) = some (.int (i - j)) := rfl
@[simp] theorem addD_int (i j : Int) : addD (.int i) (.int j) = some (.int (i + j)) := rfl
@[simp] theorem ltD_int (i j : Int) : ltD (.int i) (.int j) = some (.bl (decide (i < j))) := rfl
@[simp] theorem leD_int (i j : Int) : leD (.int i) (.int j) = some (.bl (decide (i ≤ j))) := rfl
@[simp] theorem gtD_int (i j : Int) : gtD (.int i) (.int j) = some (.bl (decide (j < i))) := rfl
@[simp] theorem geD_int (i j : Int) : geD (.int i) (.int j) = some (.bl (decide (j ≤ i))) := rfl
@[simp] theorem modD_int (i j : Int) (h : 0 < j) : modD (.int i) (.int j) = some (.int (i % j)) := by simp [modD, h]
@[simp] theorem divD_int (i j : Int) (h : 0 < j) (h2 : j < 1073741824) : divD (.int i) (.int j) = some (.int (i / j)) := by simp [divD, CDiv, h, h2]
theorem mulD_l (i j : Int) (h : -(2 ^ 64) < i) (h2 : i < 2 ^ 64) : mulD (.int i) (.int j) = some (.int (i * j)) := by
  have c : CMul i j := .inl ⟨h, h2⟩
  simp [mulD, c]
theorem mulD_r (i j : Int) (h : -(2 ^ 64) < j) (h2 : j < 2 ^ 64) : mulD (.int i) (.int j) = some (.int (i * j)) := by
  have c : CMul i j := .inr ⟨h, h2⟩
  simp [mulD, c]
end DL
namespace DL
open PySem PySem.Spec L2
open PyProof.Rows hiding St
/-! ### comprehensions of pure items -/
theorem compGo_map {tg : TgF} {tt : M Bool} {te : M D} {vs : List Nat} {f : D → D} {ρ : DL.Env} : ∀ (xs acc : List D), (∀ x ∈ xs, ∃ ρ1 ρ2, tg x ρ = some ρ1 ∧ tt ρ1 = .ok true ρ1 ∧ te ρ1 = .ok (f x) ρ2 ∧ plainB vs ρ2 = true ∧ wipeE ρ2 vs = ρ) → acc.length + xs.length ≤ sizeLine →
    compGo tg tt te vs acc xs ρ = .ok (acc ++ xs.map f) ρ
  | [], acc, _, _ => by simp [compGo]
  | x :: xs, acc, h, hz => by
    obtain ⟨ρ1, ρ2, h1, h2, h3, h4, h5⟩ := h x List.mem_cons_self
    have hz' : acc.length < sizeLine := by simp at hz; omega
    have e : itemM tt te acc ρ1 = .ok (acc ++ [f x]) ρ2 := by
      unfold itemM
      rw [bindM_ap, h2]
      show bindM te _ ρ1 = _
      rw [bindM_ap, h3]
      dsimp only
      rw [if_pos hz']; rfl
    unfold compGo
    simp only [h1, e, h4, if_true, h5]
    rw [compGo_map xs _ (fun y hy => h y (List.mem_cons_of_mem _ hy)) (by simp at hz ⊢; omega)]
    simp
/-- .. with a test -/
theorem compGo_filter {tg : TgF} {tt : M Bool} {te : M D} {vs : List Nat} {p : D → Bool} {f : D → D} {ρ : DL.Env} : ∀ (xs acc : List D), (∀ x ∈ xs, ∃ ρ1 ρ2 ρ3, tg x ρ = some ρ1 ∧ tt ρ1 = .ok (p x) ρ2 ∧ te ρ2 = .ok (f x) ρ3 ∧ plainB vs ρ2 = true ∧ wipeE ρ2 vs = ρ ∧ plainB vs ρ3 = true ∧ wipeE ρ3 vs = ρ) → acc.length + xs.length ≤ sizeLine →
    compGo tg tt te vs acc xs ρ = .ok (acc ++ (xs.filter p).map f) ρ
  | [], acc, _, _ => by simp [compGo]
  | x :: xs, acc, h, hz => by
    obtain ⟨ρ1, ρ2, ρ3, h1, h2, h3, h4, h5, h6, h7⟩ := h x List.mem_cons_self
    have hz' : acc.length < sizeLine := by simp at hz; omega
    have ih := fun acc' (q : acc'.length + xs.length ≤ sizeLine) => compGo_filter xs acc' (fun y hy => h y (List.mem_cons_of_mem _ hy)) q
    cases hp : p x with
    | true =>
      have e : itemM tt te acc ρ1 = .ok (acc ++ [f x]) ρ3 := by
        unfold itemM
        rw [bindM_ap, h2, hp]
        show bindM te _ ρ2 = _
        rw [bindM_ap, h3]
        dsimp only
        rw [if_pos hz']; rfl
      unfold compGo
      simp only [h1, e, h6, if_true, h7]
      rw [ih _ (by simp at hz ⊢; omega)]
      simp [List.filter_cons, hp]
    | false =>
      have e : itemM tt te acc ρ1 = .ok acc ρ2 := by
        unfold itemM
        rw [bindM_ap, h2, hp]; rfl
      unfold compGo
      simp only [h1, e, h4, if_true, h5]
      rw [ih _ (by simp at hz ⊢; omega)]
      simp [List.filter_cons, hp]
@[simp] theorem plain_no : plain .no = true := rfl
@[simp] theorem plain_d (x : D) : plain (.d x) = true := rfl
theorem size_ok {n : Nat} (h : n ≤ 1000000) : n ≤ sizeLine := by rw [sizeLine_eq]; omega
/-! ### what == asks of data: signs, depth -/
def layD (d : D) : Bool := (toPy d).canLay0
def dpD (d : D) : Nat := (toPy d).depth
theorem okD_of {d : D} (h : layD d = true) (h2 : dpD d ≤ 64) : okD d = true := by
  unfold okD SeqAt.shaped
  rw [Bool.and_eq_true]
  exact ⟨h, decide_eq_true h2⟩
theorem layD_of {d : D} (h : okD d = true) : layD d = true := SeqAt.canLay_of_shaped h
theorem dpD_of {d : D} (h : okD d = true) : dpD d ≤ 64 := SeqAt.depth_of_shaped h
theorem toPyL_map : ∀ xs : List D, toPyL xs = xs.map toPy
  | [] => rfl
  | x :: xs => by simp [toPyL, toPyL_map xs]
theorem canAll : ∀ xs : List D, PyData.canLayAll0 (toPyL xs) = xs.all layD
  | [] => rfl
  | x :: xs => by
    show ((toPy x).canLay0 && PyData.canLayAll0 (toPyL xs)) = _
    rw [canAll xs]; rfl
theorem layD_tup (xs : List D) : layD (.tup xs) = xs.all layD := canAll xs
theorem layD_lst (xs : List D) : layD (.lst xs) = xs.all layD := canAll xs
theorem dpL_le {xs : List D} {n : Nat} (h : ∀ x ∈ xs, dpD x ≤ n) : PyData.depthAll (toPyL xs) ≤ n := by
  induction xs with
  | nil => simp [toPyL, PyData.depthAll]
  | cons x xs ih =>
    have h1 := h x List.mem_cons_self
    have h2 := ih fun y hy => h y (List.mem_cons_of_mem _ hy)
    simp only [toPyL, PyData.depthAll]
    unfold dpD at h1
    omega
theorem dpD_tup {xs : List D} {n : Nat} (h : ∀ x ∈ xs, dpD x ≤ n) : dpD (.tup xs) ≤ n + 1 := by
  have := dpL_le h
  unfold dpD
  simp only [toPy, PyData.depth]
  omega
theorem dpD_lst {xs : List D} {n : Nat} (h : ∀ x ∈ xs, dpD x ≤ n) : dpD (.lst xs) ≤ n + 1 := by
  have := dpL_le h
  unfold dpD
  simp only [toPy, PyData.depth]
  omega
@[simp] theorem layD_int (i : Int) : layD (.int i) = true := by simp [layD, toPy, PyData.canLay0]
@[simp] theorem dpD_int (i : Int) : dpD (.int i) = 0 := by simp [dpD, toPy, PyData.depth]
@[simp] theorem dpD_str (i : Str) : dpD (.str i) = 0 := by simp [dpD, toPy, PyData.depth]
@[simp] theorem dpD_bl (i : Bool) : dpD (.bl i) = 0 := by simp [dpD, toPy, PyData.depth]
/-! equality, by parts -/
theorem eqvL : ∀ xs ys : List D, PyData.eqvAll (toPyL xs) (toPyL ys) = (decide (xs.length = ys.length) && (xs.zip ys).all fun p => eqvD p.1 p.2)
  | [], [] => by simp [toPyL, PyData.eqvAll]
  | [], y :: ys => by simp [toPyL, PyData.eqvAll]
  | x :: xs, [] => by simp [toPyL, PyData.eqvAll]
  | x :: xs, y :: ys => by
    simp only [toPyL, PyData.eqvAll, eqvL xs ys, List.zip_cons_cons, List.all_cons, List.length_cons, Nat.add_right_cancel_iff, eqvD]
    cases (toPy x).eqv (toPy y) <;> cases decide (xs.length = ys.length) <;> simp
theorem eqv_tup (xs ys : List D) : eqvD (.tup xs) (.tup ys) = (decide (xs.length = ys.length) && (xs.zip ys).all fun p => eqvD p.1 p.2) := by
  unfold eqvD; simp only [toPy, PyData.eqv]; exact eqvL xs ys
theorem eqv_lst (xs ys : List D) : eqvD (.lst xs) (.lst ys) = (decide (xs.length = ys.length) && (xs.zip ys).all fun p => eqvD p.1 p.2) := by
  unfold eqvD; simp only [toPy, PyData.eqv]; exact eqvL xs ys
mutual
/-- data without dicts and objects is equal to itself -/
theorem eqvD_refl : ∀ d : D, layD d = true → eqvD d d = true
  | .non, _ => by simp [eqvD, toPy, PyData.eqv]
  | .bl b, _ => by simp
  | .int i, _ => by simp
  | .str s, _ => by simp
  | .lst xs, h => by
    unfold eqvD; simp only [toPy, PyData.eqv]
    exact eqvL_refl xs (by rw [layD_lst] at h; exact h)
  | .tup xs, h => by
    unfold eqvD; simp only [toPy, PyData.eqv]
    exact eqvL_refl xs (by rw [layD_tup] at h; exact h)
  | .dic _ _, h => by simp [layD, toPy, PyData.canLay0] at h
  | .ins _ _ _, h => by simp [layD, toPy, PyData.canLay0] at h
theorem eqvL_refl : ∀ xs : List D, xs.all layD = true → PyData.eqvAll (toPyL xs) (toPyL xs) = true
  | [], _ => by simp [toPyL, PyData.eqvAll]
  | x :: xs, h => by
    rw [List.all_cons, Bool.and_eq_true] at h
    simp only [toPyL, PyData.eqvAll, Bool.and_eq_true]
    exact ⟨eqvD_refl x h.1, eqvL_refl xs h.2⟩
end
end DL
end
namespace DL
open PySem PySem.Spec L2
open PyProof.Rows hiding St
def tab : ExTab := [("YardError", ["YardError", "ValueError"]), ("BadYard", ["BadYard", "YardError", "ValueError"]), ("BadPosition", ["BadPosition", "YardError", "ValueError"]), ("NoMove", ["NoMove", "YardError", "ValueError"]), ("Ended", ["Ended", "YardError", "ValueError"]), ("BadSide", ["BadSide", "YardError", "ValueError"]), ("BadPaper", ["BadPaper", "YardError", "ValueError"]), ("TooMany", ["TooMany", "YardError", "ValueError"]), ("NoWin", ["NoWin", "YardError", "ValueError"]), ("NoProblem", ["NoProblem", "YardError", "ValueError"]), ("BadText", ["BadText", "YardError", "ValueError"]), ("Nothing", ["Nothing", "YardError", "ValueError"]), ("NoKin", ["NoKin", "YardError", "ValueError"])]
def top (i : Nat) : Stmt := PySem.Challenge.pw_pieceyard_k30_depths.main.body.getD i (.Pass ⟨0, 0, 0, 0⟩)
structure Txt (K : PySem.W.Frag) (mg : Str → Option Value) : Prop where
  exs : Exs K mg tab
  n_ValueError : mg "ValueError" = none
  n_all : mg "all" = none
  n_bool : mg "bool" = none
  n_int : mg "int" = none
  n_isinstance : mg "isinstance" = none
  n_len : mg "len" = none
  n_list : mg "list" = none
  n_max : mg "max" = none
  n_range : mg "range" = none
  n_tuple : mg "tuple" = none
  c_NOT : ∃ t, mg "NOT" = some (.str "not" t)
  c_WON : ∃ t, mg "WON" = some (.str "won" t)
abbrev s_is_tree : Stmt := top 17
abbrev N_is_tree : List Str := ["tree", "leaf", "row"]
abbrev P_is_tree : List Str := ["tree", "leaf"]
abbrev s_depth_of : Stmt := top 18
abbrev N_depth_of : List Str := ["tree", "row"]
abbrev P_depth_of : List Str := ["tree"]
abbrev s_check_either : Stmt := top 19
abbrev N_check_either : List Str := ["tree"]
abbrev P_check_either : List Str := ["tree"]
abbrev s_depth : Stmt := top 20
abbrev N_depth : List Str := ["tree"]
abbrev P_depth : List Str := ["tree"]
abbrev s_law_cell : Stmt := top 22
abbrev N_law_cell : List Str := ["script", "k", "base"]
abbrev P_law_cell : List Str := ["script", "k"]
abbrev s_law_begin : Stmt := top 23
abbrev N_law_begin : List Str := ["script", "k", "cell"]
abbrev P_law_begin : List Str := ["script", "k"]
abbrev s_law_take : Stmt := top 24
abbrev N_law_take : List Str := ["state", "many", "found", "stir"]
abbrev P_law_take : List Str := ["state", "many"]
abbrev s_law_whole : Stmt := top 25
abbrev N_law_whole : List Str := ["found"]
abbrev P_law_whole : List Str := ["found"]
abbrev s_law_is_tree : Stmt := top 26
abbrev N_law_is_tree : List Str := ["tree", "leaf", "row"]
abbrev P_law_is_tree : List Str := ["tree", "leaf"]
abbrev s_law_copy : Stmt := top 27
abbrev N_law_copy : List Str := ["tree", "other", "move"]
abbrev P_law_copy : List Str := ["tree"]
abbrev s_law_bent : Stmt := top 28
abbrev N_law_bent : List Str := ["tree", "state", "parts", "way", "rows", "at", "move", "some", "kind"]
abbrev P_law_bent : List Str := ["tree", "state", "parts"]
abbrev s_law_which : Stmt := top 29
abbrev N_law_which : List Str := ["e", "marks"]
abbrev P_law_which : List Str := ["e"]
abbrev s_law_drawn : Stmt := top 30
abbrev N_law_drawn : List Str := ["state", "deep", "leaf", "kind", "rows", "turn", "move"]
abbrev P_law_drawn : List Str := ["state", "deep", "leaf"]
abbrev s_law_deep : Stmt := top 31
abbrev N_law_deep : List Str := ["tree", "other", "move"]
abbrev P_law_deep : List Str := ["tree"]
abbrev s_law : Stmt := top 32
abbrev N_law : List Str := ["script", "state", "tree", "good", "handed", "which", "found", "e"]
abbrev P_law : List Str := ["script"]
/-! ### the mirrors -/
namespace Mi
def is_tree : Nat → Fn
  | 0 => fun _ => .stuck
  | n + 1 => fnM false 3 (seqM (ifM (boolM (op2 eqD (getM 0) (tupM (consM (getM 1) (pureM []))))) (retM (pureM (.bl true))) (skipM)) (seqM (ifM (andM (boolM (op2 eqD (callD lenD (consM (getM 0) (pureM []))) (pureM (.int 3)))) (boolM (op2 eqD (op2 ixD (getM 0) (pureM (.int 0))) (pureM (.str "move"))))) (retM (callM (Mi.is_tree n) (mdM [false, false] (consA (op2 ixD (getM 0) (pureM (.int 2))) (consA (getM 1) (pureM [])))))) (skipM)) (seqM (ifM (andM (boolM (op2 eqD (callD lenD (consM (getM 0) (pureM []))) (pureM (.int 2)))) (andM (boolM (op2 eqD (op2 ixD (getM 0) (pureM (.int 0))) (pureM (.str "all")))) (boolM (op2 gtD (callD lenD (consM (op2 ixD (getM 0) (pureM (.int 1))) (pureM []))) (pureM (.int 0)))))) (retM (callD allD (consM (lstM (compO (itemsM (op2 ixD (getM 0) (pureM (.int 1)))) (tgN 2) (pureM true) (callM (Mi.is_tree n) (mdM [false, false] (consA (op2 ixD (getM 2) (pureM (.int 1))) (consA (getM 1) (pureM []))))) [2])) (pureM [])))) (skipM)) (retM (pureM (.bl false))))))
def depth_of : Nat → Fn
  | 0 => fun _ => .stuck
  | n + 1 => fnM false 2 (seqM (ifM (boolM (op2 eqD (op2 ixD (getM 0) (pureM (.int 0))) (pureM (.str "move")))) (retM (op2 addD (pureM (.int 1)) (callM (Mi.depth_of n) (mdM [false] (consA (op2 ixD (getM 0) (pureM (.int 2))) (pureM [])))))) (skipM)) (seqM (ifM (boolM (op2 eqD (op2 ixD (getM 0) (pureM (.int 0))) (pureM (.str "all")))) (retM (op2 addD (pureM (.int 1)) (callD maxLD (consM (lstM (compO (itemsM (op2 ixD (getM 0) (pureM (.int 1)))) (tgN 1) (pureM true) (callM (Mi.depth_of n) (mdM [false] (consA (op2 ixD (getM 1) (pureM (.int 1))) (pureM [])))) [1])) (pureM []))))) (skipM)) (retM (pureM (.int 0)))))
def check_either : Fn := fnM false 1 (ifM (andM (notM (boolM (callM (Mi.is_tree 16) (mdM [false, false] (consA (getM 0) (consA (pureM (.str "won")) (pureM []))))))) (notM (boolM (callM (Mi.is_tree 16) (mdM [false, false] (consA (getM 0) (consA (pureM (.str "not")) (pureM [])))))))) (raiseM "BadPaper") (skipM))
def depth : Fn := fnM false 1 (seqM (dropM (callM Mi.check_either (mdM [false] (consA (getM 0) (pureM []))))) (retM (callM (Mi.depth_of 16) (mdM [false] (consA (getM 0) (pureM []))))))
def law_cell : Fn := fnM false 3 (seqM (ifM (boolM (op2 ltD (getM 1) (callD lenD (consM (getM 0) (pureM []))))) (retM (op2 ixD (getM 0) (getM 1))) (skipM)) (seqM (setM 2 (pureM (.int 0))) (seqM (ifM (boolM (op2 gtD (callD lenD (consM (getM 0) (pureM []))) (pureM (.int 0)))) (setM 2 (op2 ixD (getM 0) (pureM (.int 0)))) (skipM)) (retM (op2 modD (op2 addD (op2 mulD (op2 modD (getM 2) (pureM (.int 65521))) (pureM (.int 48271))) (op2 mulD (getM 1) (pureM (.int 30103)))) (pureM (.int 65521)))))))
def law_begin : Fn := fnM true 3 (seqM (setM 2 (callM Mi.law_cell (mdM [false, false] (consA (getM 0) (consA (getM 1) (pureM [])))))) (retOM (sizeM (consM (callD max2D (consM (getM 2) (consM (op2 subD (pureM (.int 0)) (getM 2)) (pureM [])))) (consM (callD intCD (consM (op2 geD (getM 2) (op2 powD (pureM (.int 10)) (pureM (.int 18)))) (pureM []))) (consM (pureM (.int 0)) (pureM [])))))))
def law_take : Fn := fnM false 4 (seqM (ifM (andM (boolM (op2 eqD (bindM (getO 0) fun _ => opO 0 ixO (pureM (.int 1))) (pureM (.int 1)))) (boolM (op2 gtD (bindM (getO 0) fun _ => opO 0 ixO (pureM (.int 0))) (pureM (.int 0))))) (seqM (setM 2 (op2 modD (bindM (getO 0) fun _ => opO 0 ixO (pureM (.int 0))) (getM 1))) (seqM (setIM 0 (pureM (.int 0)) (op2 divD (bindM (getO 0) fun _ => opO 0 ixO (pureM (.int 0))) (getM 1))) (retM (getM 2)))) (skipM)) (seqM (setIM 0 (pureM (.int 2)) (op2 addD (bindM (getO 0) fun _ => opO 0 ixO (pureM (.int 2))) (pureM (.int 1)))) (seqM (setM 3 (op2 modD (op2 mulD (op2 addD (op2 addD (op2 modD (bindM (getO 0) fun _ => opO 0 ixO (pureM (.int 0))) (pureM (.int 2147483647))) (op2 mulD (pureM (.int 7919)) (bindM (getO 0) fun _ => opO 0 ixO (pureM (.int 2))))) (pureM (.int 17))) (pureM (.int 48271))) (pureM (.int 2147483647)))) (seqM (setM 3 (op2 modD (op2 mulD (getM 3) (getM 3)) (pureM (.int 2147483647)))) (seqM (setM 3 (op2 modD (op2 mulD (op2 addD (getM 3) (bindM (getO 0) fun _ => opO 0 ixO (pureM (.int 2)))) (pureM (.int 69621))) (pureM (.int 2147483629)))) (retM (op2 modD (op2 divD (op2 modD (op2 mulD (getM 3) (getM 3)) (pureM (.int 2147483629))) (pureM (.int 8))) (getM 1))))))))
def law_whole : Fn := fnM false 1 (retM (andV (isiM "int" (getM 0)) (notV (isiM "bool" (getM 0)))))
def law_is_tree : Nat → Fn
  | 0 => fun _ => .stuck
  | n + 1 => fnM false 3 (seqM (ifM (orM (notM (boolM (isiM "tuple" (getM 0)))) (boolM (op2 eqD (callD lenD (consM (getM 0) (pureM []))) (pureM (.int 0))))) (retM (pureM (.bl false))) (skipM)) (seqM (ifM (boolM (op2 eqD (callD lenD (consM (getM 0) (pureM []))) (pureM (.int 1)))) (retM (op2 eqD (op2 ixD (getM 0) (pureM (.int 0))) (getM 1))) (skipM)) (seqM (ifM (andM (boolM (op2 eqD (op2 ixD (getM 0) (pureM (.int 0))) (pureM (.str "move")))) (boolM (op2 eqD (callD lenD (consM (getM 0) (pureM []))) (pureM (.int 3))))) (retM (callM (Mi.law_is_tree n) (mdM [false, false] (consA (op2 ixD (getM 0) (pureM (.int 2))) (consA (getM 1) (pureM [])))))) (skipM)) (seqM (ifM (orM (boolM (op2 neD (op2 ixD (getM 0) (pureM (.int 0))) (pureM (.str "all")))) (orM (boolM (op2 neD (callD lenD (consM (getM 0) (pureM []))) (pureM (.int 2)))) (orM (notM (boolM (isiM "list" (op2 ixD (getM 0) (pureM (.int 1)))))) (boolM (op2 eqD (op2 ixD (getM 0) (pureM (.int 1))) (lstM (sizeM (pureM [])))))))) (retM (pureM (.bl false))) (skipM)) (retM (op2 eqD (callD lenD (consM (lstM (compO (itemsM (op2 ixD (getM 0) (pureM (.int 1)))) (tgN 2) (orM (notM (boolM (isiM "tuple" (getM 2)))) (notM (boolM (callM (Mi.law_is_tree n) (mdM [false, false] (consA (op2 ixD (getM 2) (pureM (.int 1))) (consA (getM 1) (pureM [])))))))) (getM 2) [2])) (pureM []))) (pureM (.int 0))))))))
def law_copy : Nat → Fn
  | 0 => fun _ => .stuck
  | n + 1 => fnM false 3 (seqM (ifM (andM (boolM (op2 eqD (op2 ixD (getM 0) (pureM (.int 0))) (pureM (.str "move")))) (boolM (op2 eqD (callD lenD (consM (getM 0) (pureM []))) (pureM (.int 3))))) (retM (tupM (consM (pureM (.str "move")) (consM (op2 ixD (getM 0) (pureM (.int 1))) (consM (callM (Mi.law_copy n) (mdM [false] (consA (op2 ixD (getM 0) (pureM (.int 2))) (pureM [])))) (pureM [])))))) (skipM)) (seqM (ifM (andM (boolM (op2 eqD (op2 ixD (getM 0) (pureM (.int 0))) (pureM (.str "all")))) (boolM (op2 eqD (callD lenD (consM (getM 0) (pureM []))) (pureM (.int 2))))) (retM (tupM (consM (pureM (.str "all")) (consM (lstM (compO (itemsM (op2 ixD (getM 0) (pureM (.int 1)))) (tgU 2 (tgs1 (tgN 2) (tgs1 (tgN 1) (tgs0)))) (pureM true) (tupM (consM (getM 2) (consM (callM (Mi.law_copy n) (mdM [false] (consA (getM 1) (pureM [])))) (pureM [])))) [2, 1])) (pureM []))))) (skipM)) (retM (getM 0))))
def law_bent : Nat → Fn
  | 0 => fun _ => .stuck
  | n + 1 => fnM false 9 (seqM (setM 3 (callM Mi.law_take (mdM [true, false] (bindM (haveS 1) fun _ => consS 1 (consA (pureM (.int 12)) (pureM [])))))) (seqM (ifM (andM (boolM (op2 eqD (op2 ixD (getM 0) (pureM (.int 0))) (pureM (.str "move")))) (boolM (op2 ltD (getM 3) (pureM (.int 6))))) (retM (tupM (consM (pureM (.str "move")) (consM (op2 ixD (getM 0) (pureM (.int 1))) (consM (callM (Mi.law_bent n) (mdM [false, true, false] (consA (op2 ixD (getM 0) (pureM (.int 2))) (bindM (haveS 1) fun _ => consS 1 (consA (getM 2) (pureM [])))))) (pureM [])))))) (skipM)) (seqM (ifM (andM (boolM (op2 eqD (op2 ixD (getM 0) (pureM (.int 0))) (pureM (.str "all")))) (boolM (op2 ltD (getM 3) (pureM (.int 6))))) (seqM (setOM 4 (callO listCD (consM (op2 ixD (getM 0) (pureM (.int 1))) (pureM [])))) (seqM (setM 5 (callM Mi.law_take (mdM [true, false] (bindM (haveS 1) fun _ => consS 1 (consA (lenO 4) (pureM [])))))) (seqM (setIM 4 (getM 5) (tupM (consM (op2 ixD (bindM (getO 4) fun _ => opO 4 ixO (getM 5)) (pureM (.int 0))) (consM (callM (Mi.law_bent n) (mdM [false, true, false] (consA (op2 ixD (bindM (getO 4) fun _ => opO 4 ixO (getM 5)) (pureM (.int 1))) (bindM (haveS 1) fun _ => consS 1 (consA (getM 2) (pureM [])))))) (pureM []))))) (retM (tupM (consM (pureM (.str "all")) (consM (rdM 4) (pureM [])))))))) (skipM)) (seqM (setM 6 (tupM (consM (tupM (consM (callM Mi.law_take (mdM [true, false] (bindM (haveS 1) fun _ => consS 1 (consA (pureM (.int 4)) (pureM []))))) (consM (callM Mi.law_take (mdM [true, false] (bindM (haveS 1) fun _ => consS 1 (consA (pureM (.int 4)) (pureM []))))) (pureM [])))) (consM (tupM (consM (callM Mi.law_take (mdM [true, false] (bindM (haveS 1) fun _ => consS 1 (consA (pureM (.int 4)) (pureM []))))) (consM (callM Mi.law_take (mdM [true, false] (bindM (haveS 1) fun _ => consS 1 (consA (pureM (.int 4)) (pureM []))))) (pureM [])))) (pureM []))))) (seqM (ifM (boolM (op2 eqD (op2 ixD (getM 0) (pureM (.int 0))) (pureM (.str "move")))) (seqM (setM 7 (lstM (sizeM (consM (op2 ixD (getM 0) (pureM (.int 2))) (consM (tupM (consM (pureM (.str "move")) (consM (getM 6) (consM (op2 ixD (getM 0) (pureM (.int 2))) (pureM []))))) (consM (tupM (consM (pureM (.str "move")) (consM (op2 ixD (getM 0) (pureM (.int 1))) (pureM [])))) (consM (tupM (consM (pureM (.str "all")) (consM (lstM (sizeM (consM (tupM (consM (op2 ixD (getM 0) (pureM (.int 1))) (consM (op2 ixD (getM 0) (pureM (.int 2))) (pureM [])))) (pureM [])))) (pureM [])))) (pureM [])))))))) (retM (op2 ixD (op2 addD (getM 7) (lstM (sizeM (consM (tupM (consM (pureM (.str "won")) (pureM []))) (consM (tupM (consM (pureM (.str "not")) (pureM []))) (consM (tupM (consM (pureM (.str "move")) (consM (getM 6) (consM (tupM (consM (pureM (.str "lost")) (pureM []))) (pureM []))))) (pureM []))))))) (callM Mi.law_take (mdM [true, false] (bindM (haveS 1) fun _ => consS 1 (consA (pureM (.int 7)) (pureM [])))))))) (skipM)) (seqM (ifM (boolM (op2 eqD (op2 ixD (getM 0) (pureM (.int 0))) (pureM (.str "all")))) (seqM (setOM 4 (callO listCD (consM (op2 ixD (getM 0) (pureM (.int 1))) (pureM [])))) (seqM (setM 5 (callM Mi.law_take (mdM [true, false] (bindM (haveS 1) fun _ => consS 1 (consA (lenO 4) (pureM [])))))) (seqM (setM 8 (callM Mi.law_take (mdM [true, false] (bindM (haveS 1) fun _ => consS 1 (consA (pureM (.int 7)) (pureM [])))))) (seqM (ifM (boolM (op2 eqD (getM 8) (pureM (.int 0)))) (dropM (mtO 4 popAtD (consM (getM 5) (pureM [])))) (skipM)) (seqM (ifM (boolM (op2 eqD (getM 8) (pureM (.int 1)))) (dropM (mtO 4 revD (pureM []))) (skipM)) (seqM (ifM (boolM (op2 eqD (getM 8) (pureM (.int 2)))) (dropM (mtO 4 insD (consM (getM 5) (consM (bindM (getO 4) fun _ => opO 4 ixO (getM 5)) (pureM []))))) (skipM)) (seqM (ifM (boolM (op2 eqD (getM 8) (pureM (.int 3)))) (setIM 4 (getM 5) (tupM (consM (getM 6) (consM (op2 ixD (bindM (getO 4) fun _ => opO 4 ixO (getM 5)) (pureM (.int 1))) (pureM []))))) (skipM)) (seqM (ifM (boolM (op2 eqD (getM 8) (pureM (.int 4)))) (retM (tupM (consM (pureM (.str "move")) (consM (op2 ixD (bindM (getO 4) fun _ => opO 4 ixO (getM 5)) (pureM (.int 0))) (consM (op2 ixD (bindM (getO 4) fun _ => opO 4 ixO (getM 5)) (pureM (.int 1))) (pureM [])))))) (skipM)) (seqM (ifM (boolM (op2 eqD (getM 8) (pureM (.int 5)))) (setOM 4 (sizeM (pureM []))) (skipM)) (seqM (ifM (boolM (op2 eqD (getM 8) (pureM (.int 6)))) (retM (op2 ixD (lstM (sizeM (consM (tupM (consM (pureM (.str "won")) (pureM []))) (consM (tupM (consM (pureM (.str "not")) (pureM []))) (consM (tupM (consM (pureM (.str "every")) (consM (rdM 4) (pureM [])))) (pureM [])))))) (callM Mi.law_take (mdM [true, false] (bindM (haveS 1) fun _ => consS 1 (consA (pureM (.int 3)) (pureM []))))))) (skipM)) (retM (tupM (consM (pureM (.str "all")) (consM (rdM 4) (pureM []))))))))))))))) (skipM)) (retM (op2 ixD (lstM (sizeM (consM (tupM (consM (pureM (.str "won")) (pureM []))) (consM (tupM (consM (pureM (.str "not")) (pureM []))) (consM (tupM (consM (pureM (.str "won")) (consM (pureM (.int 1)) (pureM [])))) (consM (tupM (pureM [])) (consM (tupM (consM (pureM (.str "move")) (consM (getM 6) (consM (getM 0) (pureM []))))) (consM (tupM (consM (pureM (.str "lost")) (pureM []))) (pureM []))))))))) (callM Mi.law_take (mdM [true, false] (bindM (haveS 1) fun _ => consS 1 (consA (pureM (.int 6)) (pureM [])))))))))))))
def law_which : Fn := fnM false 2 (seqM (setM 1 (lstM (sizeM (consM (exnM 0 (fun c => subT tab "BadYard" c)) (consM (exnM 0 (fun c => subT tab "BadPosition" c)) (consM (exnM 0 (fun c => subT tab "NoMove" c)) (consM (exnM 0 (fun c => subT tab "Ended" c)) (pureM [])))))))) (seqM (setM 1 (op2 addD (getM 1) (lstM (sizeM (consM (exnM 0 (fun c => subT tab "BadSide" c)) (consM (exnM 0 (fun c => subT tab "BadPaper" c)) (consM (exnM 0 (fun c => subT tab "TooMany" c)) (consM (exnM 0 (fun c => subT tab "NoWin" c)) (pureM []))))))))) (seqM (setM 1 (op2 addD (getM 1) (lstM (sizeM (consM (exnM 0 (fun c => subT tab "NoProblem" c)) (consM (exnM 0 (fun c => subT tab "BadText" c)) (consM (exnM 0 (fun c => subT tab "Nothing" c)) (consM (exnM 0 (fun c => subT tab "NoKin" c)) (pureM []))))))))) (seqM (ifM (orM (notM (boolM (exnM 0 (fun c => (tab.lookup c).map fun _ => true)))) (boolM (op2 neD (mtV "list" cntD (getM 1) (consM (pureM (.bl true)) (pureM []))) (pureM (.int 1))))) (retM (pureM (.int 99))) (skipM)) (retM (mtV "list" idxD (getM 1) (consM (pureM (.bl true)) (pureM []))))))))
def law_drawn : Nat → Fn
  | 0 => fun _ => .stuck
  | n + 1 => fnM false 7 (seqM (setM 3 (callM Mi.law_take (mdM [true, false] (bindM (haveS 0) fun _ => consS 0 (consA (pureM (.int 3)) (pureM [])))))) (seqM (ifM (orM (boolM (op2 eqD (getM 1) (pureM (.int 0)))) (boolM (op2 eqD (getM 3) (pureM (.int 0))))) (retM (tupM (consM (getM 2) (pureM [])))) (skipM)) (seqM (setOM 4 (sizeM (pureM []))) (seqM (forD (rg1M (consM (op2 addD (pureM (.int 1)) (op2 mulD (op2 modD (getM 3) (pureM (.int 2))) (callM Mi.law_take (mdM [true, false] (bindM (haveS 0) fun _ => consS 0 (consA (pureM (.int 3)) (pureM []))))))) (pureM []))) (tgN 5) (seqM (setM 6 (tupM (consM (tupM (consM (callM Mi.law_take (mdM [true, false] (bindM (haveS 0) fun _ => consS 0 (consA (pureM (.int 4)) (pureM []))))) (consM (getM 5) (pureM [])))) (consM (tupM (consM (callM Mi.law_take (mdM [true, false] (bindM (haveS 0) fun _ => consS 0 (consA (pureM (.int 4)) (pureM []))))) (consM (callM Mi.law_take (mdM [true, false] (bindM (haveS 0) fun _ => consS 0 (consA (pureM (.int 4)) (pureM []))))) (pureM [])))) (pureM []))))) (dropM (mtO 4 appD (consM (tupM (consM (getM 6) (consM (callM (Mi.law_drawn n) (mdM [true, false, false] (bindM (haveS 0) fun _ => consS 0 (consA (op2 subD (getM 1) (pureM (.int 1))) (consA (getM 2) (pureM [])))))) (pureM [])))) (pureM [])))))) (seqM (ifM (boolM (op2 eqD (getM 3) (pureM (.int 1)))) (retM (tupM (consM (pureM (.str "all")) (consM (rdM 4) (pureM []))))) (skipM)) (retM (tupM (consM (pureM (.str "move")) (consM (op2 ixD (bindM (getO 4) fun _ => opO 4 ixO (pureM (.int 0))) (pureM (.int 0))) (consM (op2 ixD (bindM (getO 4) fun _ => opO 4 ixO (pureM (.int 0))) (pureM (.int 1))) (pureM [])))))))))))
def law_deep : Nat → Fn
  | 0 => fun _ => .stuck
  | n + 1 => fnM false 3 (seqM (ifM (boolM (op2 eqD (op2 ixD (getM 0) (pureM (.int 0))) (pureM (.str "move")))) (retM (op2 addD (pureM (.int 1)) (callM (Mi.law_deep n) (mdM [false] (consA (op2 ixD (getM 0) (pureM (.int 2))) (pureM [])))))) (skipM)) (seqM (ifM (boolM (op2 eqD (op2 ixD (getM 0) (pureM (.int 0))) (pureM (.str "all")))) (retM (op2 addD (pureM (.int 1)) (callD maxLD (consM (lstM (compO (itemsM (op2 ixD (getM 0) (pureM (.int 1)))) (tgU 2 (tgs1 (tgN 2) (tgs1 (tgN 1) (tgs0)))) (pureM true) (callM (Mi.law_deep n) (mdM [false] (consA (getM 1) (pureM [])))) [2, 1])) (pureM []))))) (skipM)) (retM (pureM (.int 0)))))
def law : Fn := fnM false 8 (seqM (setOM 1 (callL Mi.law_begin (mdM [false, false] (consA (getM 0) (consA (pureM (.int 0)) (pureM [])))))) (seqM (setM 2 (callM (Mi.law_drawn 16) (mdM [true, false, false] (bindM (haveS 1) fun _ => consS 1 (consA (callM Mi.law_take (mdM [true, false] (bindM (haveS 1) fun _ => consS 1 (consA (pureM (.int 5)) (pureM []))))) (consA (op2 ixD (lstM (sizeM (consM (pureM (.str "won")) (consM (pureM (.str "not")) (pureM []))))) (callM Mi.law_take (mdM [true, false] (bindM (haveS 1) fun _ => consS 1 (consA (pureM (.int 2)) (pureM [])))))) (pureM []))))))) (seqM (ifM (boolM (op2 eqD (callM Mi.law_take (mdM [true, false] (bindM (haveS 1) fun _ => consS 1 (consA (pureM (.int 3)) (pureM []))))) (pureM (.int 1)))) (setM 2 (callM (Mi.law_bent 16) (mdM [false, true, false] (consA (getM 2) (bindM (haveS 1) fun _ => consS 1 (consA (lstM (sizeM (pureM []))) (pureM []))))))) (skipM)) (seqM (setM 3 (orV (callM (Mi.law_is_tree 16) (mdM [false, false] (consA (getM 2) (consA (pureM (.str "won")) (pureM []))))) (callM (Mi.law_is_tree 16) (mdM [false, false] (consA (getM 2) (consA (pureM (.str "not")) (pureM []))))))) (seqM (setM 4 (iteM (boolM (getM 3)) (callM (Mi.law_copy 16) (mdM [false] (consA (getM 2) (pureM [])))) (getM 2))) (seqM (setM 5 (negM (pureM (.int 1)))) (seqM (setM 6 (pureM .non)) (seqM (tryM 7 (subT tab "YardError") (setM 6 (callM Mi.depth (mdM [false] (consA (getM 4) (pureM []))))) (fun _ => setM 5 (callM Mi.law_which (mdM [false] (bindM (haveS 7) fun _ => consS 7 (pureM [])))))) (seqM (ifM (boolM (op2 neD (getM 4) (getM 2))) (retM (pureM (.bl false))) (skipM)) (seqM (ifM (notM (boolM (getM 3))) (retM (andV (op2 eqD (getM 5) (pureM (.int 5))) (isN (getM 6)))) (skipM)) (retM (andV (op2 eqD (getM 5) (negM (pureM (.int 1)))) (andV (callM Mi.law_whole (mdM [false] (consA (getM 6) (pureM [])))) (op2 eqD (getM 6) (callM (Mi.law_deep 16) (mdM [false] (consA (getM 2) (pureM []))))))))))))))))))
end Mi
def d_is_tree : He.DefD := ⟨("is_tree", none), "is_tree", "is_tree", defArgs s_is_tree, defBody s_is_tree, defScope s_is_tree, [], []⟩
def d_depth_of : He.DefD := ⟨("depth_of", none), "depth_of", "depth_of", defArgs s_depth_of, defBody s_depth_of, defScope s_depth_of, [], []⟩
def d_check_either : He.DefD := ⟨("check_either", none), "check_either", "check_either", defArgs s_check_either, defBody s_check_either, defScope s_check_either, [], []⟩
def d_depth : He.DefD := ⟨("depth", none), "depth", "depth", defArgs s_depth, defBody s_depth, defScope s_depth, [], []⟩
def d_law_cell : He.DefD := ⟨("_law_cell", none), "_law_cell", "_law_cell", defArgs s_law_cell, defBody s_law_cell, defScope s_law_cell, [], []⟩
def d_law_begin : He.DefD := ⟨("_law_begin", none), "_law_begin", "_law_begin", defArgs s_law_begin, defBody s_law_begin, defScope s_law_begin, [], []⟩
def d_law_take : He.DefD := ⟨("_law_take", none), "_law_take", "_law_take", defArgs s_law_take, defBody s_law_take, defScope s_law_take, [], []⟩
def d_law_whole : He.DefD := ⟨("_law_whole", none), "_law_whole", "_law_whole", defArgs s_law_whole, defBody s_law_whole, defScope s_law_whole, [], []⟩
def d_law_is_tree : He.DefD := ⟨("_law_is_tree", none), "_law_is_tree", "_law_is_tree", defArgs s_law_is_tree, defBody s_law_is_tree, defScope s_law_is_tree, [], []⟩
def d_law_copy : He.DefD := ⟨("_law_copy", none), "_law_copy", "_law_copy", defArgs s_law_copy, defBody s_law_copy, defScope s_law_copy, [], []⟩
def d_law_bent : He.DefD := ⟨("_law_bent", none), "_law_bent", "_law_bent", defArgs s_law_bent, defBody s_law_bent, defScope s_law_bent, [], []⟩
def d_law_which : He.DefD := ⟨("_law_which", none), "_law_which", "_law_which", defArgs s_law_which, defBody s_law_which, defScope s_law_which, [], []⟩
def d_law_drawn : He.DefD := ⟨("_law_drawn", none), "_law_drawn", "_law_drawn", defArgs s_law_drawn, defBody s_law_drawn, defScope s_law_drawn, [], []⟩
def d_law_deep : He.DefD := ⟨("_law_deep", none), "_law_deep", "_law_deep", defArgs s_law_deep, defBody s_law_deep, defScope s_law_deep, [], []⟩
def d_law : He.DefD := ⟨("law", none), "law", "law", defArgs s_law, defBody s_law, defScope s_law, [], []⟩
def fn : List He.DefD := [d_is_tree, d_depth_of, d_check_either, d_depth, d_law_cell, d_law_begin, d_law_take, d_law_whole, d_law_is_tree, d_law_copy, d_law_bent, d_law_which, d_law_drawn, d_law_deep, d_law]
def fa : List He.Fa := [.glo "is_tree", .glo "depth_of", .glo "check_either", .glo "depth", .glo "_law_cell", .glo "_law_begin", .glo "_law_take", .glo "_law_whole", .glo "_law_is_tree", .glo "_law_copy", .glo "_law_bent", .glo "_law_which", .glo "_law_drawn", .glo "_law_deep", .glo "law", .free "ValueError", .free "all", .free "bool", .free "int", .free "isinstance", .free "len", .free "list", .free "max", .free "range", .free "tuple", .str "NOT" "not", .str "WON" "won"]
section
variable {P : Program} {w : World} {K : PySem.W.Frag} {mg : Str → Option Value} {base : Heap}
theorem sc_is_tree : FnScope N_is_tree P_is_tree (defScope s_is_tree) := ⟨rfl, rfl, rfl, by decide +kernel, rfl, by decide +kernel, by decide +kernel⟩
theorem bi_is_tree : BindsF "is_tree" s_is_tree P_is_tree := fun _ _ _ _ _ _ us hl => match us, hl with | [_, _], _ => rfl
theorem ok_is_tree (T : Txt K mg) {fA : Addr} {fd : FuncData} (Dn : DefIn K mg "is_tree" s_is_tree fA fd) : ∀ n, DFn P w K mg base "is_tree" (0 + n) [false, false] false (Mi.is_tree n)
  | 0 => dfn_stuck Dn bi_is_tree
  | n + 1 => by
    have C_is_tree := ok_is_tree T Dn n
    exact dfn_ok (k := 0 + n) Dn sc_is_tree rfl bi_is_tree fun cdv A outer s H E H0 pr pf hr tk => by
      have sc := sc_is_tree; have hu := hr.units
      exact (dss_cons (ds_if (dt_cmp (op_eqD hu) opd_eq (de_var 0 rfl (.inl rfl)) (de_tup (da_cons (de_var 1 rfl (.inr (.inl rfl))) da_nil)) (nomark _)) (dss_one (ds_ret de_bl)) dss_nil)
      (dss_cons (ds_if (dt_w (dw_and (dt_cmp (op_eqD hu) opd_eq (de_callB call_len cd_len rfl T.n_len (by decide +kernel) (da_cons (de_var 0 rfl (.inl rfl)) da_nil)) de_int (nomark _)) (dw_and1 (dt_cmp (op_eqD hu) opd_eq (de_ix ix_seq opd_ix (de_var 0 rfl (.inl rfl)) de_int) de_str (nomark _))))) (dss_one (ds_ret (de_calls rfl rfl tk C_is_tree hr (by omega) rfl (dg_d (de_ix ix_seq opd_ix (de_var 0 rfl (.inl rfl)) de_int) (dg_d (de_var 1 rfl (.inr (.inl rfl))) dg_nil))))) dss_nil)
      (dss_cons (ds_if (dt_w (dw_and (dt_cmp (op_eqD hu) opd_eq (de_callB call_len cd_len rfl T.n_len (by decide +kernel) (da_cons (de_var 0 rfl (.inl rfl)) da_nil)) de_int (nomark _)) (dw_and (dt_cmp (op_eqD hu) opd_eq (de_ix ix_seq opd_ix (de_var 0 rfl (.inl rfl)) de_int) de_str (nomark _)) (dw_and1 (dt_cmp op_gt opd_gt (de_callB call_len cd_len rfl T.n_len (by decide +kernel) (da_cons (de_ix ix_seq opd_ix (de_var 0 rfl (.inl rfl)) de_int) da_nil)) de_int (nomark _)))))) (dss_one (ds_ret (de_callB (cr_all rfl) cd_all rfl T.n_all (by decide +kernel) (da_cons (de_fz (do_lc rfl sc.nd (di_any rfl (de_ix ix_seq opd_ix (de_var 0 rfl (.inl rfl)) de_int)) (blkOk_by (N := N_is_tree) (sc := defScope s_is_tree) (own := [("row", 2)]) (by decide +kernel)) rfl rfl (fun _ _ _ _ _ _ => (dg_name 2 (pf 2 rfl) sc.nd rfl (.inl rfl))) (fun _ _ _ _ _ _ => dts_nil) (fun _ _ _ _ _ _ => (de_calls rfl rfl takes0 C_is_tree hr (by omega) rfl (dg_d (de_ix ix_seq opd_ix (de_var 2 rfl (.inl rfl)) de_int) (dg_d (de_var 1 rfl (.inr (.inl rfl))) dg_nil)))))) da_nil)))) dss_nil)
      (dss_one (ds_ret de_bl)))))
theorem sc_depth_of : FnScope N_depth_of P_depth_of (defScope s_depth_of) := ⟨rfl, rfl, rfl, by decide +kernel, rfl, by decide +kernel, by decide +kernel⟩
theorem bi_depth_of : BindsF "depth_of" s_depth_of P_depth_of := fun _ _ _ _ _ _ us hl => match us, hl with | [_], _ => rfl
theorem ok_depth_of (T : Txt K mg) {fA : Addr} {fd : FuncData} (Dn : DefIn K mg "depth_of" s_depth_of fA fd) : ∀ n, DFn P w K mg base "depth_of" (0 + n) [false] false (Mi.depth_of n)
  | 0 => dfn_stuck Dn bi_depth_of
  | n + 1 => by
    have C_depth_of := ok_depth_of T Dn n
    exact dfn_ok (k := 0 + n) Dn sc_depth_of rfl bi_depth_of fun cdv A outer s H E H0 pr pf hr tk => by
      have sc := sc_depth_of; have hu := hr.units
      exact (dss_cons (ds_if (dt_cmp (op_eqD hu) opd_eq (de_ix ix_seq opd_ix (de_var 0 rfl (.inl rfl)) de_int) de_str (nomark _)) (dss_one (ds_ret (de_op op_addU opd_add de_int (de_calls rfl rfl tk C_depth_of hr (by omega) rfl (dg_d (de_ix ix_seq opd_ix (de_var 0 rfl (.inl rfl)) de_int) dg_nil))))) dss_nil)
      (dss_cons (ds_if (dt_cmp (op_eqD hu) opd_eq (de_ix ix_seq opd_ix (de_var 0 rfl (.inl rfl)) de_int) de_str (nomark _)) (dss_one (ds_ret (de_op op_addU opd_add de_int (de_callB (cr_max rfl) cd_maxL rfl T.n_max (by decide +kernel) (da_cons (de_fz (do_lc rfl sc.nd (di_any rfl (de_ix ix_seq opd_ix (de_var 0 rfl (.inl rfl)) de_int)) (blkOk_by (N := N_depth_of) (sc := defScope s_depth_of) (own := [("row", 1)]) (by decide +kernel)) rfl rfl (fun _ _ _ _ _ _ => (dg_name 1 (pf 1 rfl) sc.nd rfl (.inl rfl))) (fun _ _ _ _ _ _ => dts_nil) (fun _ _ _ _ _ _ => (de_calls rfl rfl takes0 C_depth_of hr (by omega) rfl (dg_d (de_ix ix_seq opd_ix (de_var 1 rfl (.inl rfl)) de_int) dg_nil))))) da_nil))))) dss_nil)
      (dss_one (ds_ret de_int))))
theorem sc_check_either : FnScope N_check_either P_check_either (defScope s_check_either) := ⟨rfl, rfl, rfl, by decide +kernel, rfl, by decide +kernel, by decide +kernel⟩
theorem bi_check_either : BindsF "check_either" s_check_either P_check_either := fun _ _ _ _ _ _ us hl => match us, hl with | [_], _ => rfl
theorem ok_check_either (T : Txt K mg) {fA : Addr} {fd : FuncData} (Dn : DefIn K mg "check_either" s_check_either fA fd) (C_is_tree : DFn P w K mg base "is_tree" 16 [false, false] false (Mi.is_tree 16)) : DFn P w K mg base "check_either" 17 [false] false Mi.check_either :=
  dfn_ok (k := 16) Dn sc_check_either rfl bi_check_either fun cdv A outer s H E H0 pr pf hr tk => by
    have sc := sc_check_either; have hu := hr.units
    exact (dss_one (ds_if (dt_w (dw_and (dt_not (dt_val (de_calls rfl rfl tk C_is_tree hr (by decide) rfl (dg_d (de_var 0 rfl (.inl rfl)) (dg_d (de_globS rfl T.c_WON) dg_nil))))) (dw_and1 (dt_not (dt_val (de_calls rfl rfl tk C_is_tree hr (by decide) rfl (dg_d (de_var 0 rfl (.inl rfl)) (dg_d (de_globS rfl T.c_NOT) dg_nil)))))))) (dss_one (ds_raises rfl rfl tk (T.exs.exc "BadPaper" rfl) rfl)) dss_nil))
theorem sc_depth : FnScope N_depth P_depth (defScope s_depth) := ⟨rfl, rfl, rfl, by decide +kernel, rfl, by decide +kernel, by decide +kernel⟩
theorem bi_depth : BindsF "depth" s_depth P_depth := fun _ _ _ _ _ _ us hl => match us, hl with | [_], _ => rfl
theorem ok_depth (T : Txt K mg) {fA : Addr} {fd : FuncData} (Dn : DefIn K mg "depth" s_depth fA fd) (C_depth_of : DFn P w K mg base "depth_of" 16 [false] false (Mi.depth_of 16)) (C_check_either : DFn P w K mg base "check_either" 17 [false] false Mi.check_either) : DFn P w K mg base "depth" 18 [false] false Mi.depth :=
  dfn_ok (k := 17) Dn sc_depth rfl bi_depth fun cdv A outer s H E H0 pr pf hr tk => by
    have sc := sc_depth; have hu := hr.units
    exact (dss_cons (ds_expr (de_calls rfl rfl tk C_check_either hr (by decide) rfl (dg_d (de_var 0 rfl (.inl rfl)) dg_nil)))
      (dss_one (ds_ret (de_calls rfl rfl tk C_depth_of hr (by decide) rfl (dg_d (de_var 0 rfl (.inl rfl)) dg_nil)))))
theorem sc_law_cell : FnScope N_law_cell P_law_cell (defScope s_law_cell) := ⟨rfl, rfl, rfl, by decide +kernel, rfl, by decide +kernel, by decide +kernel⟩
theorem bi_law_cell : BindsF "_law_cell" s_law_cell P_law_cell := fun _ _ _ _ _ _ us hl => match us, hl with | [_, _], _ => rfl
theorem ok_law_cell (T : Txt K mg) {fA : Addr} {fd : FuncData} (Dn : DefIn K mg "_law_cell" s_law_cell fA fd) : DFn P w K mg base "_law_cell" 1 [false, false] false Mi.law_cell :=
  dfn_ok (k := 0) Dn sc_law_cell rfl bi_law_cell fun cdv A outer s H E H0 pr pf hr tk => by
    have sc := sc_law_cell; have hu := hr.units
    exact (dss_cons (ds_if (dt_cmp op_lt opd_lt (de_var 1 rfl (.inl rfl)) (de_callB call_len cd_len rfl T.n_len (by decide +kernel) (da_cons (de_var 0 rfl (.inl rfl)) da_nil)) (nomark _)) (dss_one (ds_ret (de_ix ix_seq opd_ix (de_var 0 rfl (.inl rfl)) (de_var 1 rfl (.inl rfl))))) dss_nil)
      (dss_cons (ds_set 2 (pf 2 rfl) sc.nd rfl (.inl rfl) de_int)
      (dss_cons (ds_if (dt_cmp op_gt opd_gt (de_callB call_len cd_len rfl T.n_len (by decide +kernel) (da_cons (de_var 0 rfl (.inl rfl)) da_nil)) de_int (nomark _)) (dss_one (ds_set 2 (pf 2 rfl) sc.nd rfl (.inl rfl) (de_ix ix_seq opd_ix (de_var 0 rfl (.inl rfl)) de_int))) dss_nil)
      (dss_one (ds_ret (de_op op_mod opd_mod (de_op op_addU opd_add (de_op op_mul opd_mul (de_op op_mod opd_mod (de_var 2 rfl (.inl rfl)) de_int) de_int) (de_op op_mul opd_mul (de_var 1 rfl (.inl rfl)) de_int)) de_int))))))
theorem sc_law_begin : FnScope N_law_begin P_law_begin (defScope s_law_begin) := ⟨rfl, rfl, rfl, by decide +kernel, rfl, by decide +kernel, by decide +kernel⟩
theorem bi_law_begin : BindsF "_law_begin" s_law_begin P_law_begin := fun _ _ _ _ _ _ us hl => match us, hl with | [_, _], _ => rfl
theorem ok_law_begin (T : Txt K mg) {fA : Addr} {fd : FuncData} (Dn : DefIn K mg "_law_begin" s_law_begin fA fd) (C_law_cell : DFn P w K mg base "_law_cell" 1 [false, false] false Mi.law_cell) : DFn P w K mg base "_law_begin" 2 [false, false] true Mi.law_begin :=
  dfn_ok (k := 1) Dn sc_law_begin rfl bi_law_begin fun cdv A outer s H E H0 pr pf hr tk => by
    have sc := sc_law_begin; have hu := hr.units
    exact (dss_cons (ds_set 2 (pf 2 rfl) sc.nd rfl (.inl rfl) (de_calls rfl rfl tk C_law_cell hr (by decide) rfl (dg_d (de_var 0 rfl (.inl rfl)) (dg_d (de_var 1 rfl (.inl rfl)) dg_nil))))
      (dss_one (ds_retO (do_lst (da_cons (de_callB (call_max2 rfl) cd_max2 rfl T.n_max (by decide +kernel) (da_cons (de_var 2 rfl (.inl rfl)) (da_cons (de_op op_sub opd_sub de_int (de_var 2 rfl (.inl rfl))) da_nil))) (da_cons (de_callTy call_int1 cd_int rfl T.n_int (by decide +kernel) (da_cons (de_cmp op_ge opd_ge (de_var 2 rfl (.inl rfl)) (de_op op_pow opd_pow de_int de_int) (nomark _)) da_nil)) (da_cons de_int da_nil)))))))
theorem sc_law_take : FnScope N_law_take P_law_take (defScope s_law_take) := ⟨rfl, rfl, rfl, by decide +kernel, rfl, by decide +kernel, by decide +kernel⟩
theorem bi_law_take : BindsF "_law_take" s_law_take P_law_take := fun _ _ _ _ _ _ us hl => match us, hl with | [_, _], _ => rfl
theorem ok_law_take (T : Txt K mg) {fA : Addr} {fd : FuncData} (Dn : DefIn K mg "_law_take" s_law_take fA fd) : DFn P w K mg base "_law_take" 1 [true, false] false Mi.law_take :=
  dfn_ok (k := 0) Dn sc_law_take rfl bi_law_take fun cdv A outer s H E H0 pr pf hr tk => by
    have sc := sc_law_take; have hu := hr.units
    exact (dss_cons (ds_if (dt_w (dw_and (dt_cmp (op_eqD hu) opd_eq (de_ixO 0 ix_seq opo_ix de_int rfl (.inl rfl)) de_int (nomark _)) (dw_and1 (dt_cmp op_gt opd_gt (de_ixO 0 ix_seq opo_ix de_int rfl (.inl rfl)) de_int (nomark _))))) (dss_cons (ds_set 2 (pf 2 rfl) sc.nd rfl (.inl rfl) (de_op op_mod opd_mod (de_ixO 0 ix_seq opo_ix de_int rfl (.inl rfl)) (de_var 1 rfl (.inl rfl))))
      (dss_cons (ds_setI 0 (de_op op_fdiv opd_div (de_ixO 0 ix_seq opo_ix de_int rfl (.inl rfl)) (de_var 1 rfl (.inl rfl))) de_int rfl (.inl rfl))
      (dss_one (ds_ret (de_var 2 rfl (.inl rfl)))))) dss_nil)
      (dss_cons (ds_setI 0 (de_op op_addU opd_add (de_ixO 0 ix_seq opo_ix de_int rfl (.inl rfl)) de_int) de_int rfl (.inl rfl))
      (dss_cons (ds_set 3 (pf 3 rfl) sc.nd rfl (.inl rfl) (de_op op_mod opd_mod (de_op op_mul opd_mul (de_op op_addU opd_add (de_op op_addU opd_add (de_op op_mod opd_mod (de_ixO 0 ix_seq opo_ix de_int rfl (.inl rfl)) de_int) (de_op op_mul opd_mul de_int (de_ixO 0 ix_seq opo_ix de_int rfl (.inl rfl)))) de_int) de_int) de_int))
      (dss_cons (ds_set 3 (pf 3 rfl) sc.nd rfl (.inl rfl) (de_op op_mod opd_mod (de_op op_mul opd_mul (de_var 3 rfl (.inl rfl)) (de_var 3 rfl (.inl rfl))) de_int))
      (dss_cons (ds_set 3 (pf 3 rfl) sc.nd rfl (.inl rfl) (de_op op_mod opd_mod (de_op op_mul opd_mul (de_op op_addU opd_add (de_var 3 rfl (.inl rfl)) (de_ixO 0 ix_seq opo_ix de_int rfl (.inl rfl))) de_int) de_int))
      (dss_one (ds_ret (de_op op_mod opd_mod (de_op op_fdiv opd_div (de_op op_mod opd_mod (de_op op_mul opd_mul (de_var 3 rfl (.inl rfl)) (de_var 3 rfl (.inl rfl))) de_int) de_int) (de_var 1 rfl (.inl rfl))))))))))
theorem sc_law_whole : FnScope N_law_whole P_law_whole (defScope s_law_whole) := ⟨rfl, rfl, rfl, by decide +kernel, rfl, by decide +kernel, by decide +kernel⟩
theorem bi_law_whole : BindsF "_law_whole" s_law_whole P_law_whole := fun _ _ _ _ _ _ us hl => match us, hl with | [_], _ => rfl
theorem ok_law_whole (T : Txt K mg) {fA : Addr} {fd : FuncData} (Dn : DefIn K mg "_law_whole" s_law_whole fA fd) : DFn P w K mg base "_law_whole" 1 [false] false Mi.law_whole :=
  dfn_ok (k := 0) Dn sc_law_whole rfl bi_law_whole fun cdv A outer s H E H0 pr pf hr tk => by
    have sc := sc_law_whole; have hu := hr.units
    exact (dss_one (ds_ret (de_and (de_isi (Ts := "int") rfl rfl rfl T.n_isinstance rfl T.n_int (by decide +kernel) (de_var 0 rfl (.inl rfl))) (de_one (de_not (de_isi (Ts := "bool") rfl rfl rfl T.n_isinstance rfl T.n_bool (by decide +kernel) (de_var 0 rfl (.inl rfl))))))))
theorem sc_law_is_tree : FnScope N_law_is_tree P_law_is_tree (defScope s_law_is_tree) := ⟨rfl, rfl, rfl, by decide +kernel, rfl, by decide +kernel, by decide +kernel⟩
theorem bi_law_is_tree : BindsF "_law_is_tree" s_law_is_tree P_law_is_tree := fun _ _ _ _ _ _ us hl => match us, hl with | [_, _], _ => rfl
theorem ok_law_is_tree (T : Txt K mg) {fA : Addr} {fd : FuncData} (Dn : DefIn K mg "_law_is_tree" s_law_is_tree fA fd) : ∀ n, DFn P w K mg base "_law_is_tree" (0 + n) [false, false] false (Mi.law_is_tree n)
  | 0 => dfn_stuck Dn bi_law_is_tree
  | n + 1 => by
    have C_law_is_tree := ok_law_is_tree T Dn n
    exact dfn_ok (k := 0 + n) Dn sc_law_is_tree rfl bi_law_is_tree fun cdv A outer s H E H0 pr pf hr tk => by
      have sc := sc_law_is_tree; have hu := hr.units
      exact (dss_cons (ds_if (dt_w (dw_or (dt_not (dt_val (de_isi (Ts := "tuple") rfl rfl rfl T.n_isinstance rfl T.n_tuple (by decide +kernel) (de_var 0 rfl (.inl rfl))))) (dw_or1 (dt_cmp (op_eqD hu) opd_eq (de_callB call_len cd_len rfl T.n_len (by decide +kernel) (da_cons (de_var 0 rfl (.inl rfl)) da_nil)) de_int (nomark _))))) (dss_one (ds_ret de_bl)) dss_nil)
      (dss_cons (ds_if (dt_cmp (op_eqD hu) opd_eq (de_callB call_len cd_len rfl T.n_len (by decide +kernel) (da_cons (de_var 0 rfl (.inl rfl)) da_nil)) de_int (nomark _)) (dss_one (ds_ret (de_cmp (op_eqD hu) opd_eq (de_ix ix_seq opd_ix (de_var 0 rfl (.inl rfl)) de_int) (de_var 1 rfl (.inr (.inl rfl))) (nomark _)))) dss_nil)
      (dss_cons (ds_if (dt_w (dw_and (dt_cmp (op_eqD hu) opd_eq (de_ix ix_seq opd_ix (de_var 0 rfl (.inl rfl)) de_int) de_str (nomark _)) (dw_and1 (dt_cmp (op_eqD hu) opd_eq (de_callB call_len cd_len rfl T.n_len (by decide +kernel) (da_cons (de_var 0 rfl (.inl rfl)) da_nil)) de_int (nomark _))))) (dss_one (ds_ret (de_calls rfl rfl tk C_law_is_tree hr (by omega) rfl (dg_d (de_ix ix_seq opd_ix (de_var 0 rfl (.inl rfl)) de_int) (dg_d (de_var 1 rfl (.inr (.inl rfl))) dg_nil))))) dss_nil)
      (dss_cons (ds_if (dt_w (dw_or (dt_cmp (op_neD hu) opd_ne (de_ix ix_seq opd_ix (de_var 0 rfl (.inl rfl)) de_int) de_str (nomark _)) (dw_or (dt_cmp (op_neD hu) opd_ne (de_callB call_len cd_len rfl T.n_len (by decide +kernel) (da_cons (de_var 0 rfl (.inl rfl)) da_nil)) de_int (nomark _)) (dw_or (dt_not (dt_val (de_isi (Ts := "list") rfl rfl rfl T.n_isinstance rfl T.n_list (by decide +kernel) (de_ix ix_seq opd_ix (de_var 0 rfl (.inl rfl)) de_int)))) (dw_or1 (dt_cmp (op_eqD hu) opd_eq (de_ix ix_seq opd_ix (de_var 0 rfl (.inl rfl)) de_int) (de_fz (do_lst da_nil)) (nomark _))))))) (dss_one (ds_ret de_bl)) dss_nil)
      (dss_one (ds_ret (de_cmp (op_eqD hu) opd_eq (de_callB call_len cd_len rfl T.n_len (by decide +kernel) (da_cons (de_fz (do_lc rfl sc.nd (di_any rfl (de_ix ix_seq opd_ix (de_var 0 rfl (.inl rfl)) de_int)) (blkOk_by (N := N_law_is_tree) (sc := defScope s_law_is_tree) (own := [("row", 2)]) (by decide +kernel)) rfl rfl (fun _ _ _ _ _ _ => (dg_name 2 (pf 2 rfl) sc.nd rfl (.inl rfl))) (fun _ _ _ _ _ _ => (dts_one (dt_w (dw_or (dt_not (dt_val (de_isi (Ts := "tuple") rfl rfl rfl T.n_isinstance rfl T.n_tuple (by decide +kernel) (de_var 2 rfl (.inl rfl))))) (dw_or1 (dt_not (dt_val (de_calls rfl rfl takes0 C_law_is_tree hr (by omega) rfl (dg_d (de_ix ix_seq opd_ix (de_var 2 rfl (.inl rfl)) de_int) (dg_d (de_var 1 rfl (.inr (.inl rfl))) dg_nil)))))))))) (fun _ _ _ _ _ _ => (de_var 2 rfl (.inl rfl))))) da_nil)) de_int (nomark _))))))))
theorem sc_law_copy : FnScope N_law_copy P_law_copy (defScope s_law_copy) := ⟨rfl, rfl, rfl, by decide +kernel, rfl, by decide +kernel, by decide +kernel⟩
theorem bi_law_copy : BindsF "_law_copy" s_law_copy P_law_copy := fun _ _ _ _ _ _ us hl => match us, hl with | [_], _ => rfl
theorem ok_law_copy (T : Txt K mg) {fA : Addr} {fd : FuncData} (Dn : DefIn K mg "_law_copy" s_law_copy fA fd) : ∀ n, DFn P w K mg base "_law_copy" (0 + n) [false] false (Mi.law_copy n)
  | 0 => dfn_stuck Dn bi_law_copy
  | n + 1 => by
    have C_law_copy := ok_law_copy T Dn n
    exact dfn_ok (k := 0 + n) Dn sc_law_copy rfl bi_law_copy fun cdv A outer s H E H0 pr pf hr tk => by
      have sc := sc_law_copy; have hu := hr.units
      exact (dss_cons (ds_if (dt_w (dw_and (dt_cmp (op_eqD hu) opd_eq (de_ix ix_seq opd_ix (de_var 0 rfl (.inl rfl)) de_int) de_str (nomark _)) (dw_and1 (dt_cmp (op_eqD hu) opd_eq (de_callB call_len cd_len rfl T.n_len (by decide +kernel) (da_cons (de_var 0 rfl (.inl rfl)) da_nil)) de_int (nomark _))))) (dss_one (ds_ret (de_tup (da_cons de_str (da_cons (de_ix ix_seq opd_ix (de_var 0 rfl (.inl rfl)) de_int) (da_cons (de_calls rfl rfl tk C_law_copy hr (by omega) rfl (dg_d (de_ix ix_seq opd_ix (de_var 0 rfl (.inl rfl)) de_int) dg_nil)) da_nil)))))) dss_nil)
      (dss_cons (ds_if (dt_w (dw_and (dt_cmp (op_eqD hu) opd_eq (de_ix ix_seq opd_ix (de_var 0 rfl (.inl rfl)) de_int) de_str (nomark _)) (dw_and1 (dt_cmp (op_eqD hu) opd_eq (de_callB call_len cd_len rfl T.n_len (by decide +kernel) (da_cons (de_var 0 rfl (.inl rfl)) da_nil)) de_int (nomark _))))) (dss_one (ds_ret (de_tup (da_cons de_str (da_cons (de_fz (do_lc rfl sc.nd (di_any rfl (de_ix ix_seq opd_ix (de_var 0 rfl (.inl rfl)) de_int)) (blkOk_by (N := N_law_copy) (sc := defScope s_law_copy) (own := [("move", 2), ("other", 1)]) (by decide +kernel)) rfl rfl (fun _ _ _ _ _ _ => (dg_tup rfl rfl (dgs_cons (dg_name 2 (pf 2 rfl) sc.nd rfl (.inl rfl)) (dgs_cons (dg_name 1 (pf 1 rfl) sc.nd rfl (.inl rfl)) dgs_nil)))) (fun _ _ _ _ _ _ => dts_nil) (fun _ _ _ _ _ _ => (de_tup (da_cons (de_var 2 rfl (.inl rfl)) (da_cons (de_calls rfl rfl takes0 C_law_copy hr (by omega) rfl (dg_d (de_var 1 rfl (.inl rfl)) dg_nil)) da_nil)))))) da_nil))))) dss_nil)
      (dss_one (ds_ret (de_var 0 rfl (.inl rfl))))))
theorem sc_law_bent : FnScope N_law_bent P_law_bent (defScope s_law_bent) := ⟨rfl, rfl, rfl, by decide +kernel, rfl, by decide +kernel, by decide +kernel⟩
theorem bi_law_bent : BindsF "_law_bent" s_law_bent P_law_bent := fun _ _ _ _ _ _ us hl => match us, hl with | [_, _, _], _ => rfl
theorem ok_law_bent (T : Txt K mg) {fA : Addr} {fd : FuncData} (Dn : DefIn K mg "_law_bent" s_law_bent fA fd) (C_law_take : DFn P w K mg base "_law_take" 1 [true, false] false Mi.law_take) : ∀ n, DFn P w K mg base "_law_bent" (1 + n) [false, true, false] false (Mi.law_bent n)
  | 0 => dfn_stuck Dn bi_law_bent
  | n + 1 => by
    have C_law_bent := ok_law_bent T Dn C_law_take n
    exact dfn_ok (k := 1 + n) Dn sc_law_bent rfl bi_law_bent fun cdv A outer s H E H0 pr pf hr tk => by
      have sc := sc_law_bent; have hu := hr.units
      exact (dss_cons (ds_set 3 (pf 3 rfl) sc.nd rfl (.inl rfl) (de_calls rfl rfl tk C_law_take hr (by omega) rfl (dg_s 1 (dg_d de_int dg_nil) rfl (.inl rfl))))
      (dss_cons (ds_if (dt_w (dw_and (dt_cmp (op_eqD hu) opd_eq (de_ix ix_seq opd_ix (de_var 0 rfl (.inl rfl)) de_int) de_str (nomark _)) (dw_and1 (dt_cmp op_lt opd_lt (de_var 3 rfl (.inl rfl)) de_int (nomark _))))) (dss_one (ds_ret (de_tup (da_cons de_str (da_cons (de_ix ix_seq opd_ix (de_var 0 rfl (.inl rfl)) de_int) (da_cons (de_calls rfl rfl tk C_law_bent hr (by omega) rfl (dg_d (de_ix ix_seq opd_ix (de_var 0 rfl (.inl rfl)) de_int) (dg_s 1 (dg_d (de_var 2 rfl (.inl rfl)) dg_nil) rfl (.inl rfl)))) da_nil)))))) dss_nil)
      (dss_cons (ds_if (dt_w (dw_and (dt_cmp (op_eqD hu) opd_eq (de_ix ix_seq opd_ix (de_var 0 rfl (.inl rfl)) de_int) de_str (nomark _)) (dw_and1 (dt_cmp op_lt opd_lt (de_var 3 rfl (.inl rfl)) de_int (nomark _))))) (dss_cons (ds_setO 4 (pf 4 rfl) sc.nd rfl (.inl rfl) (do_callTy call_list_of co_list rfl T.n_list (by decide +kernel) (da_cons (de_ix ix_seq opd_ix (de_var 0 rfl (.inl rfl)) de_int) da_nil)))
      (dss_cons (ds_set 5 (pf 5 rfl) sc.nd rfl (.inl rfl) (de_calls rfl rfl tk C_law_take hr (by omega) rfl (dg_s 1 (dg_d (de_lenO 4 rfl T.n_len rfl (.inl rfl)) dg_nil) rfl (.inl rfl))))
      (dss_cons (ds_setI 4 (de_tup (da_cons (de_ix ix_seq opd_ix (de_ixO 4 ix_seq opo_ix (de_var 5 rfl (.inl rfl)) rfl (.inl rfl)) de_int) (da_cons (de_calls rfl rfl tk C_law_bent hr (by omega) rfl (dg_d (de_ix ix_seq opd_ix (de_ixO 4 ix_seq opo_ix (de_var 5 rfl (.inl rfl)) rfl (.inl rfl)) de_int) (dg_s 1 (dg_d (de_var 2 rfl (.inl rfl)) dg_nil) rfl (.inl rfl)))) da_nil))) (de_var 5 rfl (.inl rfl)) rfl (.inl rfl))
      (dss_one (ds_ret (de_tup (da_cons de_str (da_cons (de_rd 4 (pf 4 rfl) rfl (.inl rfl)) da_nil)))))))) dss_nil)
      (dss_cons (ds_set 6 (pf 6 rfl) sc.nd rfl (.inl rfl) (de_tup (da_cons (de_tup (da_cons (de_calls rfl rfl tk C_law_take hr (by omega) rfl (dg_s 1 (dg_d de_int dg_nil) rfl (.inl rfl))) (da_cons (de_calls rfl rfl tk C_law_take hr (by omega) rfl (dg_s 1 (dg_d de_int dg_nil) rfl (.inl rfl))) da_nil))) (da_cons (de_tup (da_cons (de_calls rfl rfl tk C_law_take hr (by omega) rfl (dg_s 1 (dg_d de_int dg_nil) rfl (.inl rfl))) (da_cons (de_calls rfl rfl tk C_law_take hr (by omega) rfl (dg_s 1 (dg_d de_int dg_nil) rfl (.inl rfl))) da_nil))) da_nil))))
      (dss_cons (ds_if (dt_cmp (op_eqD hu) opd_eq (de_ix ix_seq opd_ix (de_var 0 rfl (.inl rfl)) de_int) de_str (nomark _)) (dss_cons (ds_set 7 (pf 7 rfl) sc.nd rfl (.inl rfl) (de_fz (do_lst (da_cons (de_ix ix_seq opd_ix (de_var 0 rfl (.inl rfl)) de_int) (da_cons (de_tup (da_cons de_str (da_cons (de_var 6 rfl (.inl rfl)) (da_cons (de_ix ix_seq opd_ix (de_var 0 rfl (.inl rfl)) de_int) da_nil)))) (da_cons (de_tup (da_cons de_str (da_cons (de_ix ix_seq opd_ix (de_var 0 rfl (.inl rfl)) de_int) da_nil))) (da_cons (de_tup (da_cons de_str (da_cons (de_fz (do_lst (da_cons (de_tup (da_cons (de_ix ix_seq opd_ix (de_var 0 rfl (.inl rfl)) de_int) (da_cons (de_ix ix_seq opd_ix (de_var 0 rfl (.inl rfl)) de_int) da_nil))) da_nil))) da_nil))) da_nil)))))))
      (dss_one (ds_ret (de_ix ix_seq opd_ix (de_op op_addU opd_add (de_var 7 rfl (.inl rfl)) (de_fz (do_lst (da_cons (de_tup (da_cons de_str da_nil)) (da_cons (de_tup (da_cons de_str da_nil)) (da_cons (de_tup (da_cons de_str (da_cons (de_var 6 rfl (.inl rfl)) (da_cons (de_tup (da_cons de_str da_nil)) da_nil)))) da_nil)))))) (de_calls rfl rfl tk C_law_take hr (by omega) rfl (dg_s 1 (dg_d de_int dg_nil) rfl (.inl rfl))))))) dss_nil)
      (dss_cons (ds_if (dt_cmp (op_eqD hu) opd_eq (de_ix ix_seq opd_ix (de_var 0 rfl (.inl rfl)) de_int) de_str (nomark _)) (dss_cons (ds_setO 4 (pf 4 rfl) sc.nd rfl (.inl rfl) (do_callTy call_list_of co_list rfl T.n_list (by decide +kernel) (da_cons (de_ix ix_seq opd_ix (de_var 0 rfl (.inl rfl)) de_int) da_nil)))
      (dss_cons (ds_set 5 (pf 5 rfl) sc.nd rfl (.inl rfl) (de_calls rfl rfl tk C_law_take hr (by omega) rfl (dg_s 1 (dg_d (de_lenO 4 rfl T.n_len rfl (.inl rfl)) dg_nil) rfl (.inl rfl))))
      (dss_cons (ds_set 8 (pf 8 rfl) sc.nd rfl (.inl rfl) (de_calls rfl rfl tk C_law_take hr (by omega) rfl (dg_s 1 (dg_d de_int dg_nil) rfl (.inl rfl))))
      (dss_cons (ds_if (dt_cmp (op_eqD hu) opd_eq (de_var 8 rfl (.inl rfl)) de_int (nomark _)) (dss_one (ds_expr (de_bmO (id := "pop") (T := "list") 4 PySem.F.slot_list_pop PySem.F.type_list_pop mt_popAt mo_popAt (da_cons (de_var 5 rfl (.inl rfl)) da_nil) rfl (.inl rfl)))) dss_nil)
      (dss_cons (ds_if (dt_cmp (op_eqD hu) opd_eq (de_var 8 rfl (.inl rfl)) de_int (nomark _)) (dss_one (ds_expr (de_bmO0 4 PySem.F.slot_list_reverse PySem.F.type_list_reverse mt_reverse mo_reverse rfl (.inl rfl)))) dss_nil)
      (dss_cons (ds_if (dt_cmp (op_eqD hu) opd_eq (de_var 8 rfl (.inl rfl)) de_int (nomark _)) (dss_one (ds_expr (de_bmO (id := "insert") (T := "list") 4 PySem.F.slot_list_insert PySem.F.type_list_insert mt_insert mo_insert (da_cons (de_var 5 rfl (.inl rfl)) (da_cons (de_ixO 4 ix_seq opo_ix (de_var 5 rfl (.inl rfl)) rfl (.inl rfl)) da_nil)) rfl (.inl rfl)))) dss_nil)
      (dss_cons (ds_if (dt_cmp (op_eqD hu) opd_eq (de_var 8 rfl (.inl rfl)) de_int (nomark _)) (dss_one (ds_setI 4 (de_tup (da_cons (de_var 6 rfl (.inl rfl)) (da_cons (de_ix ix_seq opd_ix (de_ixO 4 ix_seq opo_ix (de_var 5 rfl (.inl rfl)) rfl (.inl rfl)) de_int) da_nil))) (de_var 5 rfl (.inl rfl)) rfl (.inl rfl))) dss_nil)
      (dss_cons (ds_if (dt_cmp (op_eqD hu) opd_eq (de_var 8 rfl (.inl rfl)) de_int (nomark _)) (dss_one (ds_ret (de_tup (da_cons de_str (da_cons (de_ix ix_seq opd_ix (de_ixO 4 ix_seq opo_ix (de_var 5 rfl (.inl rfl)) rfl (.inl rfl)) de_int) (da_cons (de_ix ix_seq opd_ix (de_ixO 4 ix_seq opo_ix (de_var 5 rfl (.inl rfl)) rfl (.inl rfl)) de_int) da_nil)))))) dss_nil)
      (dss_cons (ds_if (dt_cmp (op_eqD hu) opd_eq (de_var 8 rfl (.inl rfl)) de_int (nomark _)) (dss_one (ds_setO 4 (pf 4 rfl) sc.nd rfl (.inl rfl) (do_lst da_nil))) dss_nil)
      (dss_cons (ds_if (dt_cmp (op_eqD hu) opd_eq (de_var 8 rfl (.inl rfl)) de_int (nomark _)) (dss_one (ds_ret (de_ix ix_seq opd_ix (de_fz (do_lst (da_cons (de_tup (da_cons de_str da_nil)) (da_cons (de_tup (da_cons de_str da_nil)) (da_cons (de_tup (da_cons de_str (da_cons (de_rd 4 (pf 4 rfl) rfl (.inl rfl)) da_nil))) da_nil))))) (de_calls rfl rfl tk C_law_take hr (by omega) rfl (dg_s 1 (dg_d de_int dg_nil) rfl (.inl rfl)))))) dss_nil)
      (dss_one (ds_ret (de_tup (da_cons de_str (da_cons (de_rd 4 (pf 4 rfl) rfl (.inl rfl)) da_nil))))))))))))))) dss_nil)
      (dss_one (ds_ret (de_ix ix_seq opd_ix (de_fz (do_lst (da_cons (de_tup (da_cons de_str da_nil)) (da_cons (de_tup (da_cons de_str da_nil)) (da_cons (de_tup (da_cons de_str (da_cons de_int da_nil))) (da_cons (de_tup da_nil) (da_cons (de_tup (da_cons de_str (da_cons (de_var 6 rfl (.inl rfl)) (da_cons (de_var 0 rfl (.inl rfl)) da_nil)))) (da_cons (de_tup (da_cons de_str da_nil)) da_nil)))))))) (de_calls rfl rfl tk C_law_take hr (by omega) rfl (dg_s 1 (dg_d de_int dg_nil) rfl (.inl rfl))))))))))))
theorem sc_law_which : FnScope N_law_which P_law_which (defScope s_law_which) := ⟨rfl, rfl, rfl, by decide +kernel, rfl, by decide +kernel, by decide +kernel⟩
theorem bi_law_which : BindsF "_law_which" s_law_which P_law_which := fun _ _ _ _ _ _ us hl => match us, hl with | [_], _ => rfl
theorem ok_law_which (T : Txt K mg) {fA : Addr} {fd : FuncData} (Dn : DefIn K mg "_law_which" s_law_which fA fd) : DFnX P w K mg base "_law_which" 1 [false] Mi.law_which :=
  dfnx_ok (k := 0) Dn sc_law_which rfl bi_law_which fun p c C cdv A outer s H E H0 pr pf hrX hx => by
    have sc := sc_law_which; have hu := roomX hrX
    exact (dss_cons (ds_set 1 (pf 1 rfl) sc.nd rfl (.inl rfl) (de_fz (do_lst (da_cons (de_isEc 0 hx T.exs rfl rfl rfl (by decide) rfl T.n_isinstance rfl (.inl rfl)) (da_cons (de_isEc 0 hx T.exs rfl rfl rfl (by decide) rfl T.n_isinstance rfl (.inl rfl)) (da_cons (de_isEc 0 hx T.exs rfl rfl rfl (by decide) rfl T.n_isinstance rfl (.inl rfl)) (da_cons (de_isEc 0 hx T.exs rfl rfl rfl (by decide) rfl T.n_isinstance rfl (.inl rfl)) da_nil)))))))
      (dss_cons (ds_set 1 (pf 1 rfl) sc.nd rfl (.inl rfl) (de_op op_addU opd_add (de_var 1 rfl (.inl rfl)) (de_fz (do_lst (da_cons (de_isEc 0 hx T.exs rfl rfl rfl (by decide) rfl T.n_isinstance rfl (.inl rfl)) (da_cons (de_isEc 0 hx T.exs rfl rfl rfl (by decide) rfl T.n_isinstance rfl (.inl rfl)) (da_cons (de_isEc 0 hx T.exs rfl rfl rfl (by decide) rfl T.n_isinstance rfl (.inl rfl)) (da_cons (de_isEc 0 hx T.exs rfl rfl rfl (by decide) rfl T.n_isinstance rfl (.inl rfl)) da_nil))))))))
      (dss_cons (ds_set 1 (pf 1 rfl) sc.nd rfl (.inl rfl) (de_op op_addU opd_add (de_var 1 rfl (.inl rfl)) (de_fz (do_lst (da_cons (de_isEc 0 hx T.exs rfl rfl rfl (by decide) rfl T.n_isinstance rfl (.inl rfl)) (da_cons (de_isEc 0 hx T.exs rfl rfl rfl (by decide) rfl T.n_isinstance rfl (.inl rfl)) (da_cons (de_isEc 0 hx T.exs rfl rfl rfl (by decide) rfl T.n_isinstance rfl (.inl rfl)) (da_cons (de_isEc 0 hx T.exs rfl rfl rfl (by decide) rfl T.n_isinstance rfl (.inl rfl)) da_nil))))))))
      (dss_cons (ds_if (dt_w (dw_or (dt_not (dt_val (de_isEv 0 hx T.exs rfl rfl T.n_ValueError rfl T.n_isinstance rfl (.inl rfl)))) (dw_or1 (dt_cmp (op_neD hu) opd_ne (de_bm rfl PySem.F.plainAttrs_list PySem.F.slot_list_count PySem.F.type_list_count mt_cntF mv_count (de_var 1 rfl (.inl rfl)) (da_cons de_bl da_nil)) de_int (nomark _))))) (dss_one (ds_ret de_int)) dss_nil)
      (dss_one (ds_ret (de_bm rfl PySem.F.plainAttrs_list PySem.F.slot_list_index PySem.F.type_list_index mt_index mv_index (de_var 1 rfl (.inl rfl)) (da_cons de_bl da_nil))))))))
theorem sc_law_drawn : FnScope N_law_drawn P_law_drawn (defScope s_law_drawn) := ⟨rfl, rfl, rfl, by decide +kernel, rfl, by decide +kernel, by decide +kernel⟩
theorem bi_law_drawn : BindsF "_law_drawn" s_law_drawn P_law_drawn := fun _ _ _ _ _ _ us hl => match us, hl with | [_, _, _], _ => rfl
theorem ok_law_drawn (T : Txt K mg) {fA : Addr} {fd : FuncData} (Dn : DefIn K mg "_law_drawn" s_law_drawn fA fd) (C_law_take : DFn P w K mg base "_law_take" 1 [true, false] false Mi.law_take) : ∀ n, DFn P w K mg base "_law_drawn" (1 + n) [true, false, false] false (Mi.law_drawn n)
  | 0 => dfn_stuck Dn bi_law_drawn
  | n + 1 => by
    have C_law_drawn := ok_law_drawn T Dn C_law_take n
    exact dfn_ok (k := 1 + n) Dn sc_law_drawn rfl bi_law_drawn fun cdv A outer s H E H0 pr pf hr tk => by
      have sc := sc_law_drawn; have hu := hr.units
      exact (dss_cons (ds_set 3 (pf 3 rfl) sc.nd rfl (.inl rfl) (de_calls rfl rfl tk C_law_take hr (by omega) rfl (dg_s 0 (dg_d de_int dg_nil) rfl (.inl rfl))))
      (dss_cons (ds_if (dt_w (dw_or (dt_cmp (op_eqD hu) opd_eq (de_var 1 rfl (.inl rfl)) de_int (nomark _)) (dw_or1 (dt_cmp (op_eqD hu) opd_eq (de_var 3 rfl (.inl rfl)) de_int (nomark _))))) (dss_one (ds_ret (de_tup (da_cons (de_var 2 rfl (.inl rfl)) da_nil)))) dss_nil)
      (dss_cons (ds_setO 4 (pf 4 rfl) sc.nd rfl (.inl rfl) (do_lst da_nil))
      (dss_cons (ds_for (passes_of rfl) rfl (di_range1 rfl T.n_range (da_cons (de_op op_addU opd_add de_int (de_op op_mul opd_mul (de_op op_mod opd_mod (de_var 3 rfl (.inl rfl)) de_int) (de_calls rfl rfl tk C_law_take hr (by omega) rfl (dg_s 0 (dg_d de_int dg_nil) rfl (.inl rfl))))) da_nil)) (dg_name 5 (pf 5 rfl) sc.nd rfl (.inl rfl)) (dss_cons (ds_set 6 (pf 6 rfl) sc.nd rfl (.inl rfl) (de_tup (da_cons (de_tup (da_cons (de_calls rfl rfl tk C_law_take hr (by omega) rfl (dg_s 0 (dg_d de_int dg_nil) rfl (.inl rfl))) (da_cons (de_var 5 rfl (.inl rfl)) da_nil))) (da_cons (de_tup (da_cons (de_calls rfl rfl tk C_law_take hr (by omega) rfl (dg_s 0 (dg_d de_int dg_nil) rfl (.inl rfl))) (da_cons (de_calls rfl rfl tk C_law_take hr (by omega) rfl (dg_s 0 (dg_d de_int dg_nil) rfl (.inl rfl))) da_nil))) da_nil))))
      (dss_one (ds_expr (de_bmO (id := "append") (T := "list") 4 PySem.F.slot_list_append PySem.F.type_list_append mt_append mo_append (da_cons (de_tup (da_cons (de_var 6 rfl (.inl rfl)) (da_cons (de_calls rfl rfl tk C_law_drawn hr (by omega) rfl (dg_s 0 (dg_d (de_op op_sub opd_sub (de_var 1 rfl (.inl rfl)) de_int) (dg_d (de_var 2 rfl (.inl rfl)) dg_nil)) rfl (.inl rfl))) da_nil))) da_nil) rfl (.inl rfl))))))
      (dss_cons (ds_if (dt_cmp (op_eqD hu) opd_eq (de_var 3 rfl (.inl rfl)) de_int (nomark _)) (dss_one (ds_ret (de_tup (da_cons de_str (da_cons (de_rd 4 (pf 4 rfl) rfl (.inl rfl)) da_nil))))) dss_nil)
      (dss_one (ds_ret (de_tup (da_cons de_str (da_cons (de_ix ix_seq opd_ix (de_ixO 4 ix_seq opo_ix de_int rfl (.inl rfl)) de_int) (da_cons (de_ix ix_seq opd_ix (de_ixO 4 ix_seq opo_ix de_int rfl (.inl rfl)) de_int) da_nil)))))))))))
theorem sc_law_deep : FnScope N_law_deep P_law_deep (defScope s_law_deep) := ⟨rfl, rfl, rfl, by decide +kernel, rfl, by decide +kernel, by decide +kernel⟩
theorem bi_law_deep : BindsF "_law_deep" s_law_deep P_law_deep := fun _ _ _ _ _ _ us hl => match us, hl with | [_], _ => rfl
theorem ok_law_deep (T : Txt K mg) {fA : Addr} {fd : FuncData} (Dn : DefIn K mg "_law_deep" s_law_deep fA fd) : ∀ n, DFn P w K mg base "_law_deep" (0 + n) [false] false (Mi.law_deep n)
  | 0 => dfn_stuck Dn bi_law_deep
  | n + 1 => by
    have C_law_deep := ok_law_deep T Dn n
    exact dfn_ok (k := 0 + n) Dn sc_law_deep rfl bi_law_deep fun cdv A outer s H E H0 pr pf hr tk => by
      have sc := sc_law_deep; have hu := hr.units
      exact (dss_cons (ds_if (dt_cmp (op_eqD hu) opd_eq (de_ix ix_seq opd_ix (de_var 0 rfl (.inl rfl)) de_int) de_str (nomark _)) (dss_one (ds_ret (de_op op_addU opd_add de_int (de_calls rfl rfl tk C_law_deep hr (by omega) rfl (dg_d (de_ix ix_seq opd_ix (de_var 0 rfl (.inl rfl)) de_int) dg_nil))))) dss_nil)
      (dss_cons (ds_if (dt_cmp (op_eqD hu) opd_eq (de_ix ix_seq opd_ix (de_var 0 rfl (.inl rfl)) de_int) de_str (nomark _)) (dss_one (ds_ret (de_op op_addU opd_add de_int (de_callB (cr_max rfl) cd_maxL rfl T.n_max (by decide +kernel) (da_cons (de_fz (do_lc rfl sc.nd (di_any rfl (de_ix ix_seq opd_ix (de_var 0 rfl (.inl rfl)) de_int)) (blkOk_by (N := N_law_deep) (sc := defScope s_law_deep) (own := [("move", 2), ("other", 1)]) (by decide +kernel)) rfl rfl (fun _ _ _ _ _ _ => (dg_tup rfl rfl (dgs_cons (dg_name 2 (pf 2 rfl) sc.nd rfl (.inl rfl)) (dgs_cons (dg_name 1 (pf 1 rfl) sc.nd rfl (.inl rfl)) dgs_nil)))) (fun _ _ _ _ _ _ => dts_nil) (fun _ _ _ _ _ _ => (de_calls rfl rfl takes0 C_law_deep hr (by omega) rfl (dg_d (de_var 1 rfl (.inl rfl)) dg_nil))))) da_nil))))) dss_nil)
      (dss_one (ds_ret de_int))))
theorem sc_law : FnScope N_law P_law (defScope s_law) := ⟨rfl, rfl, rfl, by decide +kernel, rfl, by decide +kernel, by decide +kernel⟩
theorem bi_law : BindsF "law" s_law P_law := fun _ _ _ _ _ _ us hl => match us, hl with | [_], _ => rfl
theorem ok_law (T : Txt K mg) {fA : Addr} {fd : FuncData} (Dn : DefIn K mg "law" s_law fA fd) (C_depth : DFn P w K mg base "depth" 18 [false] false Mi.depth) (C_law_begin : DFn P w K mg base "_law_begin" 2 [false, false] true Mi.law_begin) (C_law_take : DFn P w K mg base "_law_take" 1 [true, false] false Mi.law_take) (C_law_whole : DFn P w K mg base "_law_whole" 1 [false] false Mi.law_whole) (C_law_is_tree : DFn P w K mg base "_law_is_tree" 16 [false, false] false (Mi.law_is_tree 16)) (C_law_copy : DFn P w K mg base "_law_copy" 16 [false] false (Mi.law_copy 16)) (C_law_bent : DFn P w K mg base "_law_bent" 17 [false, true, false] false (Mi.law_bent 16)) (C_law_which : DFnX P w K mg base "_law_which" 1 [false] Mi.law_which) (C_law_drawn : DFn P w K mg base "_law_drawn" 17 [true, false, false] false (Mi.law_drawn 16)) (C_law_deep : DFn P w K mg base "_law_deep" 16 [false] false (Mi.law_deep 16)) : FnOk P w K mg base (L2.CX P w) 19 fA fd P_law (spD ⟨K, mg⟩ none [false] false Mi.law) :=
  fn_ok (k := 18) Dn.2 sc_law rfl fun cdv A outer s H E H0 pr pf hr tk => by
    have sc := sc_law; have hu := hr.units; have hrX := L2H.roomH_of hr
    exact (dss_cons (ds_setO 1 (pf 1 rfl) sc.nd rfl (.inl rfl) (do_calls rfl rfl tk C_law_begin hr (by decide) rfl (dg_d (de_var 0 rfl (.inl rfl)) (dg_d de_int dg_nil))))
      (dss_cons (ds_set 2 (pf 2 rfl) sc.nd rfl (.inl rfl) (de_calls rfl rfl tk C_law_drawn hr (by decide) rfl (dg_s 1 (dg_d (de_calls rfl rfl tk C_law_take hr (by decide) rfl (dg_s 1 (dg_d de_int dg_nil) rfl (.inl rfl))) (dg_d (de_ix ix_seq opd_ix (de_fz (do_lst (da_cons de_str (da_cons de_str da_nil)))) (de_calls rfl rfl tk C_law_take hr (by decide) rfl (dg_s 1 (dg_d de_int dg_nil) rfl (.inl rfl)))) dg_nil)) rfl (.inl rfl))))
      (dss_cons (ds_if (dt_cmp (op_eqD hu) opd_eq (de_calls rfl rfl tk C_law_take hr (by decide) rfl (dg_s 1 (dg_d de_int dg_nil) rfl (.inl rfl))) de_int (nomark _)) (dss_one (ds_set 2 (pf 2 rfl) sc.nd rfl (.inl rfl) (de_calls rfl rfl tk C_law_bent hr (by decide) rfl (dg_d (de_var 2 rfl (.inl rfl)) (dg_s 1 (dg_d (de_fz (do_lst da_nil)) dg_nil) rfl (.inl rfl)))))) dss_nil)
      (dss_cons (ds_set 3 (pf 3 rfl) sc.nd rfl (.inl rfl) (de_or (de_calls rfl rfl tk C_law_is_tree hr (by decide) rfl (dg_d (de_var 2 rfl (.inl rfl)) (dg_d de_str dg_nil))) (de_one (de_calls rfl rfl tk C_law_is_tree hr (by decide) rfl (dg_d (de_var 2 rfl (.inl rfl)) (dg_d de_str dg_nil))))))
      (dss_cons (ds_set 4 (pf 4 rfl) sc.nd rfl (.inl rfl) (de_if (dt_val (de_var 3 rfl (.inl rfl))) (de_calls rfl rfl tk C_law_copy hr (by decide) rfl (dg_d (de_var 2 rfl (.inl rfl)) dg_nil)) (de_var 2 rfl (.inl rfl))))
      (dss_cons (ds_set 5 (pf 5 rfl) sc.nd rfl (.inl rfl) (de_neg de_int))
      (dss_cons (ds_set 6 (pf 6 rfl) sc.nd rfl (.inl rfl) de_non)
      (dss_cons (ds_tryT 7 rfl rfl (pf 7 rfl) T.exs rfl rfl (by decide) rfl rfl sc.nd rfl rfl tk (fun W1 pn1 xe1 tk1 po1 => (dss_one (ds_set 6 (pf 6 rfl) sc.nd rfl (.inl rfl) (de_calls rfl rfl tk1 C_depth hr (by decide) rfl (dg_d (de_var 4 rfl (.inl rfl)) dg_nil)))))
      (fun a1 oe1 C1 c1 pn1 hx => (dss_one (ds_set 5 (pf 5 rfl) sc.nd rfl (.inl rfl) (de_callsX hx rfl rfl C_law_which (roomMark hrX (by decide)) rfl (dg_s 7 dg_nil rfl (.inl rfl)))))))
      (dss_cons (ds_if (dt_cmp (op_neD hu) opd_ne (de_var 4 rfl (.inl rfl)) (de_var 2 rfl (.inl rfl)) (nomark _)) (dss_one (ds_ret de_bl)) dss_nil)
      (dss_cons (ds_if (dt_not (dt_val (de_var 3 rfl (.inl rfl)))) (dss_one (ds_ret (de_and (de_cmp (op_eqD hu) opd_eq (de_var 5 rfl (.inl rfl)) de_int (nomark _)) (de_one (de_isN (de_var 6 rfl (.inl rfl))))))) dss_nil)
      (dss_one (ds_ret (de_and (de_cmp (op_eqD hu) opd_eq (de_var 5 rfl (.inl rfl)) (de_neg de_int) (nomark _)) (de_and (de_calls rfl rfl tk C_law_whole hr (by decide) rfl (dg_d (de_var 6 rfl (.inl rfl)) dg_nil)) (de_one (de_cmp (op_eqD hu) opd_eq (de_var 6 rfl (.inl rfl)) (de_calls rfl rfl tk C_law_deep hr (by decide) rfl (dg_d (de_var 2 rfl (.inl rfl)) dg_nil)) (nomark _)))))))))))))))))
theorem law_ok {h : Heap} (X : K.In h) (G : h.Ns mainGlobals mg) (c : He.SaysD fa fn K) (xt : (exsB K tab && slotsB K) = true) : ∃ fd, DefIn K mg "law" s_law (He.ga K "law") fd ∧ slotsB K = true ∧ ∀ base : Heap, FnOk P w K mg base (L2.CX P w) 19 (He.ga K "law") fd P_law (spD ⟨K, mg⟩ none [false] false Mi.law) := by
  rw [Bool.and_eq_true] at xt
  have T : Txt K mg := ⟨exsB_ok X G xt.1, He.free_ok X G (c.fact 15 (f := .free "ValueError") rfl), He.free_ok X G (c.fact 16 (f := .free "all") rfl), He.free_ok X G (c.fact 17 (f := .free "bool") rfl), He.free_ok X G (c.fact 18 (f := .free "int") rfl), He.free_ok X G (c.fact 19 (f := .free "isinstance") rfl), He.free_ok X G (c.fact 20 (f := .free "len") rfl), He.free_ok X G (c.fact 21 (f := .free "list") rfl), He.free_ok X G (c.fact 22 (f := .free "max") rfl), He.free_ok X G (c.fact 23 (f := .free "range") rfl), He.free_ok X G (c.fact 24 (f := .free "tuple") rfl), He.str_ok X G (c.fact 25 (f := .str "NOT" "not") rfl), He.str_ok X G (c.fact 26 (f := .str "WON" "won") rfl)⟩
  obtain ⟨fd_is_tree, D_is_tree⟩ := def_in (x := "is_tree") (st := s_is_tree) X G c 0 0 rfl rfl
  obtain ⟨fd_depth_of, D_depth_of⟩ := def_in (x := "depth_of") (st := s_depth_of) X G c 1 1 rfl rfl
  obtain ⟨fd_check_either, D_check_either⟩ := def_in (x := "check_either") (st := s_check_either) X G c 2 2 rfl rfl
  obtain ⟨fd_depth, D_depth⟩ := def_in (x := "depth") (st := s_depth) X G c 3 3 rfl rfl
  obtain ⟨fd_law_cell, D_law_cell⟩ := def_in (x := "_law_cell") (st := s_law_cell) X G c 4 4 rfl rfl
  obtain ⟨fd_law_begin, D_law_begin⟩ := def_in (x := "_law_begin") (st := s_law_begin) X G c 5 5 rfl rfl
  obtain ⟨fd_law_take, D_law_take⟩ := def_in (x := "_law_take") (st := s_law_take) X G c 6 6 rfl rfl
  obtain ⟨fd_law_whole, D_law_whole⟩ := def_in (x := "_law_whole") (st := s_law_whole) X G c 7 7 rfl rfl
  obtain ⟨fd_law_is_tree, D_law_is_tree⟩ := def_in (x := "_law_is_tree") (st := s_law_is_tree) X G c 8 8 rfl rfl
  obtain ⟨fd_law_copy, D_law_copy⟩ := def_in (x := "_law_copy") (st := s_law_copy) X G c 9 9 rfl rfl
  obtain ⟨fd_law_bent, D_law_bent⟩ := def_in (x := "_law_bent") (st := s_law_bent) X G c 10 10 rfl rfl
  obtain ⟨fd_law_which, D_law_which⟩ := def_in (x := "_law_which") (st := s_law_which) X G c 11 11 rfl rfl
  obtain ⟨fd_law_drawn, D_law_drawn⟩ := def_in (x := "_law_drawn") (st := s_law_drawn) X G c 12 12 rfl rfl
  obtain ⟨fd_law_deep, D_law_deep⟩ := def_in (x := "_law_deep") (st := s_law_deep) X G c 13 13 rfl rfl
  obtain ⟨fd_law, D_law⟩ := def_in (x := "law") (st := s_law) X G c 14 14 rfl rfl
  refine ⟨fd_law, D_law, xt.2, fun base => ?_⟩
  have C_law_cell := ok_law_cell (P := P) (w := w) (base := base) T D_law_cell
  have C_law_begin := ok_law_begin (P := P) (w := w) (base := base) T D_law_begin C_law_cell
  have C_law_take := ok_law_take (P := P) (w := w) (base := base) T D_law_take
  have C_law_drawn := ok_law_drawn (P := P) (w := w) (base := base) T D_law_drawn C_law_take 16
  have C_law_bent := ok_law_bent (P := P) (w := w) (base := base) T D_law_bent C_law_take 16
  have C_law_is_tree := ok_law_is_tree (P := P) (w := w) (base := base) T D_law_is_tree 16
  have C_law_copy := ok_law_copy (P := P) (w := w) (base := base) T D_law_copy 16
  have C_is_tree := ok_is_tree (P := P) (w := w) (base := base) T D_is_tree 16
  have C_check_either := ok_check_either (P := P) (w := w) (base := base) T D_check_either C_is_tree
  have C_depth_of := ok_depth_of (P := P) (w := w) (base := base) T D_depth_of 16
  have C_depth := ok_depth (P := P) (w := w) (base := base) T D_depth C_depth_of C_check_either
  have C_law_whole := ok_law_whole (P := P) (w := w) (base := base) T D_law_whole
  have C_law_which := ok_law_which (P := P) (w := w) (base := base) T D_law_which
  have C_law_deep := ok_law_deep (P := P) (w := w) (base := base) T D_law_deep 16
  exact ok_law T D_law C_depth C_law_begin C_law_take C_law_whole C_law_is_tree C_law_copy C_law_bent C_law_which C_law_drawn C_law_deep
end
abbrev Rr : PySem.W.OpenRow := PySem.W.OpenLaw.row PySem.Challenge.rw_pieceyard_k30_depths
abbrev hkk : PySem.W.Hook := hookE 4 fa fn fun K => exsB K tab && slotsB K
def obb (s : PySem.W.SharedT) : AlE := obsE 4 fa fn (fun K => exsB K tab && slotsB K) (HandSHeadRun.getT s)
theorem obb_eq (s : PySem.W.SharedT) : obb s = hkk.obs s.abs := obsE_eq (HandSHeadRun.getT_eq s)
def loose : List Str := (["__name__", "YardError", "BadYard", "BadPosition", "NoMove", "Ended", "BadSide", "BadPaper", "TooMany", "NoWin", "NoProblem", "BadText", "Nothing", "NoKin", "WON", "NOT", "is_tree", "depth_of", "check_either", "depth", "_law_cell", "_law_begin", "_law_take", "_law_whole", "_law_is_tree", "_law_copy", "_law_bent", "_law_which", "_law_drawn", "_law_deep"] : List Str)
theorem run (w : World) : HandSHeadRun.RunEq Rr (PySem.W.view Rr.prog [32]) hkk obb 4000 loose w := by
  intro os
  kernel_rfl
end DL
section
namespace DL
open PySem PySem.Spec L2
open PyProof.Rows hiding St
theorem mul_small {i j : Int} (h : (-(2 ^ 64) < i ∧ i < 2 ^ 64) ∨ (-(2 ^ 64) < j ∧ j < 2 ^ 64)) : mulD (.int i) (.int j) = some (.int (i * j)) := by
  have c : CMul i j := h
  simp [mulD, c]
theorem take_spec (a b c many : Int) (h0 : 0 < many) (h1 : many < 1073741824) : ∃ r a' c', 0 ≤ r ∧ r < many ∧ Mi.law_take [.own [.int a, .int b, .int c], .d (.int many)] = .ok (.int r) [[.int a', .int b, .int c']] := by
  have m0 : ∀ x : Int, 0 ≤ x % many ∧ x % many < many := fun x => ⟨Int.emod_nonneg _ (by omega), Int.emod_lt_of_pos _ h0⟩
  by_cases hb : b = 1 ∧ 0 < a
  · refine ⟨a % many, a / many, c, (m0 a).1, (m0 a).2, ?_⟩
    obtain ⟨rfl, ha⟩ := hb
    simp [Mi.law_take, ixO, atI, ixN, ixSet, ha, h0, h1]
  · have e : (b = 1 ∧ ¬ 0 < a) ∨ b ≠ 1 := by omega
    obtain ⟨t1, ht1⟩ : ∃ t, t = (a % 2147483647 + 7919 * (c + 1) + 17) * 48271 % 2147483647 := ⟨_, rfl⟩
    obtain ⟨t2, ht2⟩ : ∃ t, t = t1 * t1 % 2147483647 := ⟨_, rfl⟩
    obtain ⟨t3, ht3⟩ : ∃ t, t = (t2 + (c + 1)) * 69621 % 2147483629 := ⟨_, rfl⟩
    refine ⟨(t3 * t3 % 2147483629 / 8) % many, a, c + 1, (m0 _).1, (m0 _).2, ?_⟩
    have q0 : mulD (.int 7919) (.int (c + 1)) = some (.int (7919 * (c + 1))) := mul_small (by omega)
    have q1 : mulD (.int (a % 2147483647 + 7919 * (c + 1) + 17)) (.int 48271) = some (.int ((a % 2147483647 + 7919 * (c + 1) + 17) * 48271)) := mul_small (by omega)
    have q2 : mulD (.int t1) (.int t1) = some (.int (t1 * t1)) := mul_small (by omega)
    have q3 : mulD (.int (t2 + (c + 1))) (.int 69621) = some (.int ((t2 + (c + 1)) * 69621)) := mul_small (by omega)
    have q4 : mulD (.int t3) (.int t3) = some (.int (t3 * t3)) := mul_small (by omega)
    rcases e with ⟨rfl, ha⟩ | hb
    · simp [Mi.law_take, ixO, atI, ixN, ixSet, h0, h1, ha, q0, q1, ← ht1, q2, ← ht2, q3, ← ht3, q4]
    · have hb' : (b == (1 : Int)) = false := by simpa using hb
      simp [Mi.law_take, ixO, atI, ixN, ixSet, h0, h1, hb', q0, q1, ← ht1, q2, ← ht2, q3, ← ht3, q4]
/-- the drawing state -/
def stS (a b c : Int) : Sl := .own [.int a, .int b, .int c]
theorem cell_spec (ns : List Int) (hl : ns.length ≤ 63) : ∃ i, Mi.law_cell [.d (.lst (ns.map D.int)), .d (.int 0)] = .ok (.int i) [] := by
  cases ns with
  | nil =>
    refine ⟨0, ?_⟩
    simp [Mi.law_cell, lenD, mul_small]
  | cons n ns =>
    refine ⟨n, ?_⟩
    have h : (0 : Int) < (ns.length : Int) + 1 := by omega
    simp [Mi.law_cell, lenD, ixD, atI, ixN, h]
theorem begin_spec (ns : List Int) (hl : ns.length ≤ 63) : ∃ a b c, Mi.law_begin [.d (.lst (ns.map D.int)), .d (.int 0)] = .ok (.lst [.int a, .int b, .int c]) [] := by
  obtain ⟨i, e⟩ := cell_spec ns hl
  have p : powD (.int 10) (.int 18) = some (.int (10 ^ 18)) := by
    have c : CPow 10 18 := by unfold CPow; decide
    simp [powD, c]
  refine ⟨if 0 - i > i then 0 - i else i, if decide (1000000000000000000 ≤ i) then 1 else 0, 0, ?_⟩
  simp [Mi.law_begin, e, max2D, intCD, p]
end DL
end
section
namespace DL
open PySem PySem.Spec L2
open PyProof.Rows hiding St
/-! ### papers -/
def words : List Str := ["won", "not", "lost", "every", "all", "move"]
theorem word_ok {w : Str} (h : w ∈ words) : okD (.str w) = true := by
  have a : ∀ w ∈ words, okD (.str w) = true := by decide +kernel
  exact a w h
theorem eqW {a b : Str} (ha : a ∈ words) (hb : b ∈ words) : eqD (.str a) (.str b) = some (.bl (a == b)) := by rw [eqD_ok (word_ok ha) (word_ok hb), eqv_str]
theorem neW {a b : Str} (ha : a ∈ words) (hb : b ∈ words) : neD (.str a) (.str b) = some (.bl (!(a == b))) := by rw [neD_ok (word_ok ha) (word_ok hb), eqv_str]
def MvOk (m : D) : Prop := ∃ a b c d : Int, m = .tup [.tup [.int a, .int b], .tup [.int c, .int d]]
theorem MvOk.lay {m : D} (h : MvOk m) : layD m = true ∧ dpD m ≤ 2 := by
  obtain ⟨a, b, c, d, rfl⟩ := h
  refine ⟨by simp [layD_tup], dpD_tup (n := 1) fun x hx => ?_⟩
  simp at hx
  rcases hx with rfl | rfl
  · exact dpD_tup (n := 0) fun y hy => by simp at hy; rcases hy with rfl | rfl <;> simp
  · exact dpD_tup (n := 0) fun y hy => by simp at hy; rcases hy with rfl | rfl <;> simp
def rowD (r : D × D) : D := .tup [r.1, r.2]
def Paper : Nat → D → Prop
  | 0, _ => False
  | n + 1, d => d = .tup [] ∨ (∃ w : Str, w ∈ words ∧ d = .tup [.str w]) ∨ d = .tup [.str "won", .int 1] ∨ (∃ m, MvOk m ∧ d = .tup [.str "move", m]) ∨ (∃ m t, MvOk m ∧ Paper n t ∧ d = .tup [.str "move", m, t]) ∨
    (∃ w : Str, (w = ("all" : Str) ∨ w = ("every" : Str)) ∧ ∃ rows : List (D × D), rows.length ≤ 3 + n ∧ (∀ r ∈ rows, MvOk r.1 ∧ Paper n r.2) ∧ d = .tup [.str w, .lst (rows.map rowD)])
theorem Paper.lay : ∀ {n : Nat} {d : D}, Paper n d → layD d = true ∧ dpD d ≤ 3 * n
  | 0, d, h => h.elim
  | n + 1, d, h => by
    have ws : ∀ w ∈ words, layD (.str w) = true := fun w hw => layD_of (word_ok hw)
    rcases h with rfl | ⟨w, hw, rfl⟩ | rfl | ⟨m, hm, rfl⟩ | ⟨m, t, hm, ht, rfl⟩ | ⟨w, hw, rows, hl, hr, rfl⟩
    · exact ⟨by simp [layD_tup], Nat.le_trans (dpD_tup (n := 0) fun x hx => by simp at hx) (by omega)⟩
    · exact ⟨by simp [layD_tup, ws w hw], Nat.le_trans (dpD_tup (n := 0) fun x hx => by simp at hx; subst hx; simp) (by omega)⟩
    · exact ⟨by decide +kernel, Nat.le_trans (dpD_tup (n := 0) fun x hx => by simp at hx; rcases hx with rfl | rfl <;> simp) (by omega)⟩
    · obtain ⟨h1, h2⟩ := hm.lay
      exact ⟨by simp [layD_tup, ws "move" (by decide +kernel), h1], Nat.le_trans (dpD_tup (n := 2) fun x hx => by simp at hx; rcases hx with rfl | rfl <;> simp [h2]) (by omega)⟩
    · obtain ⟨h1, h2⟩ := hm.lay
      obtain ⟨h3, h4⟩ := Paper.lay ht
      exact ⟨by simp [layD_tup, ws "move" (by decide +kernel), h1, h3], Nat.le_trans (dpD_tup (n := 2 + 3 * n) fun x hx => by simp at hx; rcases hx with rfl | rfl | rfl <;> first | omega | (simp; done)) (by omega)⟩
    · have hw' : w ∈ words := by rcases hw with rfl | rfl <;> decide +kernel
      have rl : ∀ r ∈ rows, layD (rowD r) = true ∧ dpD (rowD r) ≤ max 2 (3 * n) + 1 := fun r hr' => by
        obtain ⟨a, b⟩ := hr r hr'
        obtain ⟨h1, h2⟩ := a.lay
        obtain ⟨h3, h4⟩ := Paper.lay b
        exact ⟨by simp [rowD, layD_tup, h1, h3], dpD_tup (n := max 2 (3 * n)) fun x hx => by simp at hx; rcases hx with rfl | rfl <;> omega⟩
      cases rows with
      | nil => exact ⟨by simp [layD_tup, layD_lst, ws w hw'], Nat.le_trans (dpD_tup (n := 1) fun x hx => by
          simp at hx
          rcases hx with rfl | rfl
          · simp
          · exact dpD_lst (n := 0) fun y hy => by simp at hy) (by omega)⟩
      | cons r0 rs =>
        have n1 : 1 ≤ n := by
          have := (hr r0 List.mem_cons_self).2
          cases n with
          | zero => exact this.elim
          | succ n => omega
        refine ⟨?_, Nat.le_trans (dpD_tup (n := max 2 (3 * n) + 2) fun x hx => ?_) (by omega)⟩
        · have : (List.map rowD (r0 :: rs)).all layD = true := by
            rw [List.all_eq_true]
            intro x hx
            obtain ⟨r, hr1, rfl⟩ := List.mem_map.mp hx
            exact (rl r hr1).1
          simp only [layD_tup, layD_lst, List.all_cons, ws w hw', this, List.all_nil, Bool.and_self]
        · simp only [List.mem_cons, List.not_mem_nil, or_false] at hx
          rcases hx with rfl | rfl
          · simp
          · exact dpD_lst fun y hy => by
              obtain ⟨r, hr1, rfl⟩ := List.mem_map.mp hy
              exact (rl r hr1).2
theorem Paper.ok {n : Nat} {d : D} (h : Paper n d) (hn : n ≤ 20) : okD d = true := okD_of h.lay.1 (by have := h.lay.2; omega)
theorem Paper.mono : ∀ {n m : Nat} {d : D}, n ≤ m → Paper n d → Paper m d
  | 0, _, _, _, h => h.elim
  | n + 1, 0, _, hm, _ => by omega
  | n + 1, m + 1, d, hm, h => by
    rcases h with h | h | h | h | ⟨mv, t, h1, h2, h3⟩ | ⟨w, hw, rows, hl, hr, e⟩
    · exact .inl h
    · exact .inr (.inl h)
    · exact .inr (.inr (.inl h))
    · exact .inr (.inr (.inr (.inl h)))
    · exact .inr (.inr (.inr (.inr (.inl ⟨mv, t, h1, Paper.mono (by omega) h2, h3⟩))))
    · exact .inr (.inr (.inr (.inr (.inr ⟨w, hw, rows, by omega, fun r hr' => ⟨(hr r hr').1, Paper.mono (by omega) (hr r hr').2⟩, e⟩))))
def rowB (f : D → Bool) : D → Bool
  | .tup [_, t] => f t
  | _ => false
/-- is it a tree with such leaves -/
def isTB (leaf : Str) : Nat → D → Bool
  | 0, _ => false
  | n + 1, d => match d with
    | .tup [.str w] => w == leaf
    | .tup [.str w, .lst rows] => w == "all" && (!rows.isEmpty && rows.all (rowB (isTB leaf n)))
    | .tup [.str w, _, t] => w == "move" && isTB leaf n t
    | _ => false
theorem boolsOf_map (f : D → Bool) : ∀ xs : List D, boolsOf (xs.map fun x => .bl (f x)) = some (xs.map f)
  | [] => rfl
  | x :: xs => by simp [boolsOf, boolsOf_map f xs]
theorem is_tree_spec {leaf : Str} (hL : leaf = "won" ∨ leaf = "not") : ∀ (n k : Nat) (d : D), n ≤ k → n ≤ 20 → Paper n d → Mi.is_tree k [.d d, .d (.str leaf)] = .ok (.bl (isTB leaf n d)) [] := by
  have hLw : leaf ∈ words := by rcases hL with rfl | rfl <;> decide +kernel
  have ml : Str.ofString "move" ∈ words := by decide +kernel
  have al : Str.ofString "all" ∈ words := by decide +kernel
  intro n
  induction n with
  | zero => intro k d _ _ h; exact h.elim
  | succ n ih =>
    intro k d hk hn h
    obtain ⟨k, rfl⟩ : ∃ k', k = k' + 1 := ⟨k - 1, by omega⟩
    have hok := h.ok hn
    have h1 : okD (.tup [.str leaf]) = true := by rcases hL with rfl | rfl <;> decide +kernel
    have hone : (1 : Nat) ≤ sizeLine := size_ok (by omega)
    rcases h with rfl | ⟨w, hw, rfl⟩ | rfl | ⟨m, hm, rfl⟩ | ⟨m, t, hm, ht, rfl⟩ | ⟨w, hw, rows, hl, hr, rfl⟩
    · simp [Mi.is_tree, eqD_ok hok h1, eqv_tup, lenD, isTB]
    · have e : (w == leaf) = true ∨ (w == leaf) = false := by cases (w == leaf) <;> simp
      rcases e with e | e
      · simp [Mi.is_tree, eqD_ok hok h1, eqv_tup, isTB, e]
      · simp [Mi.is_tree, eqD_ok hok h1, eqv_tup, lenD, isTB, e]
    · have : (Str.ofString "won" == Str.ofString "all") = false := by decide +kernel
      have w1 : Str.ofString "won" ∈ words := by decide +kernel
      simp [Mi.is_tree, eqD_ok hok h1, eqv_tup, lenD, ixD, atI, ixN, isTB, eqW w1 al, this]
    · have : (Str.ofString "move" == Str.ofString "all") = false := by decide +kernel
      obtain ⟨a, b, c, d, rfl⟩ := hm
      simp [Mi.is_tree, eqD_ok hok h1, eqv_tup, lenD, ixD, atI, ixN, isTB, eqW ml al, this]
    · have i := ih k t (by omega) (by omega) ht
      simp [Mi.is_tree, eqD_ok hok h1, eqv_tup, lenD, ixD, atI, ixN, isTB, eqW ml ml, i]
    · have hw' : w ∈ words := by rcases hw with rfl | rfl <;> decide +kernel
      have ne : (w == leaf) = false := by rcases hL with rfl | rfl <;> rcases hw with rfl | rfl <;> decide +kernel
      obtain ⟨R, hR⟩ : ∃ R, R = rows.map rowD := ⟨_, rfl⟩
      rw [← hR] at hok ⊢
      have hRl : R.length ≤ 100 := by rw [hR, List.length_map]; omega
      have cg : ∀ ρ0 : DL.Env, ρ0 = [.d (.tup [.str w, .lst R]), .d (.str leaf), .no] → compGo (tgN 2) (pureM true) (callM (Mi.is_tree k) (mdM [false, false] (consA (op2 ixD (getM 2) (pureM (.int 1))) (consA (getM 1) (pureM []))))) [2] [] R ρ0 = .ok (R.map fun r => .bl (rowB (isTB leaf n) r)) ρ0 := by
        intro ρ0 e0
        subst e0
        refine (compGo_map (f := fun r => .bl (rowB (isTB leaf n) r)) _ _ (fun x hx => ?_) (by rw [sizeLine_eq]; simp; omega)).trans (by simp)
        rw [hR] at hx
        obtain ⟨r, hr1, rfl⟩ := List.mem_map.mp hx
        refine ⟨_, [.d (.tup [.str w, .lst R]), .d (.str leaf), .d (rowD r)], rfl, rfl, ?_, rfl, rfl⟩
        have i := ih k r.2 (by omega) (by omega) (hr r hr1).2
        simp [rowD, ixD, atI, ixN, i, rowB]
      rcases hw with rfl | rfl
      · by_cases he : R = []
        · subst he
          simp [Mi.is_tree, eqD_ok hok h1, eqv_tup, lenD, ixD, atI, ixN, isTB, eqW hw' al]
        · have c := cg _ rfl
          have hp : 0 < R.length := List.length_pos_iff.mpr he
          have he' : R.isEmpty = false := by cases R with
            | nil => exact absurd rfl he
            | cons => rfl
          simp [Mi.is_tree, eqD_ok hok h1, eqv_tup, lenD, ixD, atI, ixN, isTB, eqW hw' al, hp, itemsOf, wipeE, c, restE, allD, boolsOf_map, plainB, he']
      · have : (Str.ofString "every" == Str.ofString "all") = false := by decide +kernel
        simp [Mi.is_tree, eqD_ok hok h1, eqv_tup, lenD, ixD, atI, ixN, isTB, eqW hw' al, this]
end DL
end
section
namespace DL
open PySem PySem.Spec L2
open PyProof.Rows hiding St
theorem filt_all {α : Type} (f : α → Bool) : ∀ xs : List α, (((xs.filter fun x => !f x).length : Int) == 0) = xs.all f
  | [] => rfl
  | x :: xs => by
    have ih := filt_all f xs
    cases h : f x with
    | true => simp [List.filter_cons, h, ih]
    | false =>
      simp [List.filter_cons, h]
      omega
theorem law_is_tree_spec {leaf : Str} (hL : leaf = "won" ∨ leaf = "not") : ∀ (n k : Nat) (d : D), n ≤ k → n ≤ 20 → Paper n d → Mi.law_is_tree k [.d d, .d (.str leaf)] = .ok (.bl (isTB leaf n d)) [] := by
  have hLw : leaf ∈ words := by rcases hL with rfl | rfl <;> decide +kernel
  have ml : Str.ofString "move" ∈ words := by decide +kernel
  have al : Str.ofString "all" ∈ words := by decide +kernel
  intro n
  induction n with
  | zero => intro k d _ _ h; exact h.elim
  | succ n ih =>
    intro k d hk hn h
    obtain ⟨k, rfl⟩ : ∃ k', k = k' + 1 := ⟨k - 1, by omega⟩
    have hok := h.ok hn
    rcases h with rfl | ⟨w, hw, rfl⟩ | rfl | ⟨m, hm, rfl⟩ | ⟨m, t, hm, ht, rfl⟩ | ⟨w, hw, rows, hl, hr, rfl⟩
    · simp [Mi.law_is_tree, lenD, isTB, isTy]
    · simp [Mi.law_is_tree, lenD, ixD, atI, ixN, isTB, isTy, eqW hw hLw]
    · have w1 : Str.ofString "won" ∈ words := by decide +kernel
      have e1 : (Str.ofString "won" == Str.ofString "move") = false := by decide +kernel
      have e2 : (Str.ofString "won" == Str.ofString "all") = false := by decide +kernel
      simp [Mi.law_is_tree, lenD, ixD, atI, ixN, isTB, isTy, eqW w1 ml, neW w1 al, e1, e2]
    · have e2 : (Str.ofString "move" == Str.ofString "all") = false := by decide +kernel
      obtain ⟨a, b, c, d, rfl⟩ := hm
      simp [Mi.law_is_tree, lenD, ixD, atI, ixN, isTB, isTy, eqW ml ml, neW ml al, e2]
    · have i := ih k t (by omega) (by omega) ht
      simp [Mi.law_is_tree, lenD, ixD, atI, ixN, isTB, isTy, eqW ml ml, i]
    · have hw' : w ∈ words := by rcases hw with rfl | rfl <;> decide +kernel
      have ne : (w == leaf) = false := by rcases hL with rfl | rfl <;> rcases hw with rfl | rfl <;> decide +kernel
      have nm : (w == Str.ofString "move") = false := by rcases hw with rfl | rfl <;> decide +kernel
      obtain ⟨R, hR⟩ : ∃ R, R = rows.map rowD := ⟨_, rfl⟩
      rw [← hR] at hok ⊢
      have hRl : R.length ≤ 100 := by rw [hR, List.length_map]; omega
      have hRo : okD (.lst R) = true := by
        have l1 := layD_of hok
        have l2 := dpD_of hok
        rw [layD_tup] at l1
        simp only [List.all_cons, Bool.and_eq_true] at l1
        refine okD_of l1.2.1 ?_
        unfold dpD at l2 ⊢
        simp only [toPy, toPyL, PyData.depth, PyData.depthAll] at l2 ⊢
        omega
      have hno : okD (.lst []) = true := by decide +kernel
      have cg : ∀ ρ0 : DL.Env, ρ0 = [.d (.tup [.str w, .lst R]), .d (.str leaf), .no] → compGo (tgN 2) (orM (notM (boolM (isiM "tuple" (getM 2)))) (notM (boolM (callM (Mi.law_is_tree k) (mdM [false, false] (consA (op2 ixD (getM 2) (pureM (.int 1))) (consA (getM 1) (pureM [])))))))) (getM 2) [2] [] R ρ0 = .ok (R.filter fun r => !rowB (isTB leaf n) r) ρ0 := by
        intro ρ0 e0
        subst e0
        refine (compGo_filter (p := fun r => !rowB (isTB leaf n) r) (f := id) _ _ (fun x hx => ?_) (by rw [sizeLine_eq]; simp; omega)).trans (by simp)
        rw [hR] at hx
        obtain ⟨r, hr1, rfl⟩ := List.mem_map.mp hx
        have i := ih k r.2 (by omega) (by omega) (hr r hr1).2
        refine ⟨[.d (.tup [.str w, .lst R]), .d (.str leaf), .d (rowD r)], [.d (.tup [.str w, .lst R]), .d (.str leaf), .d (rowD r)], [.d (.tup [.str w, .lst R]), .d (.str leaf), .d (rowD r)], rfl, ?_, rfl, rfl, rfl, rfl, rfl⟩
        simp [rowD, ixD, atI, ixN, i, rowB, isTy]
      rcases hw with rfl | rfl
      · have c := cg _ rfl
        by_cases he : R = []
        · subst he
          simp [Mi.law_is_tree, lenD, ixD, atI, ixN, isTB, isTy, eqW hw' ml, nm, neW hw' al, eqD_ok hno hno, eqv_lst]
        · have hp : 0 < R.length := List.length_pos_iff.mpr he
          have he' : R.isEmpty = false := by cases R with
            | nil => exact absurd rfl he
            | cons => rfl
          have e0 : decide (R.length = 0) = false := by simp [he]
          have fa := filt_all (rowB (isTB leaf n)) R
          simp [Mi.law_is_tree, lenD, ixD, atI, ixN, isTB, isTy, eqW hw' ml, nm, neW hw' al, eqD_ok hRo hno, eqv_lst, itemsOf, wipeE, c, restE, plainB, he', he]
          exact fa
      · have : (Str.ofString "every" == Str.ofString "all") = false := by decide +kernel
        simp [Mi.law_is_tree, lenD, ixD, atI, ixN, isTB, isTy, eqW hw' ml, nm, neW hw' al, this]
end DL
end
section
namespace DL
open PySem PySem.Spec L2
open PyProof.Rows hiding St
def sndD : D → D
  | .tup [_, t] => t
  | _ => .non
/-- the depth of a paper -/
def dep : Nat → D → Int
  | 0, _ => 0
  | n + 1, d => match d with
    | .tup [.str _, .lst rows] => 1 + (maxI (rows.map fun r => dep n (sndD r))).getD 0
    | .tup [.str _, _, t] => 1 + dep n t
    | _ => 0
theorem intsOf_map (f : D → Int) : ∀ xs : List D, intsOf (xs.map fun x => .int (f x)) = some (xs.map f)
  | [] => rfl
  | x :: xs => by simp [intsOf, intsOf_map f xs]
theorem good_row {leaf : Str} {n : Nat} {R : List D} {rows : List (D × D)} (hR : R = rows.map rowD) (h : R.all (rowB (isTB leaf n)) = true) {x : D} (hx : x ∈ R) : ∃ r ∈ rows, x = rowD r ∧ isTB leaf n r.2 = true := by
  have a := List.all_eq_true.mp h x hx
  rw [hR] at hx
  obtain ⟨r, h1, rfl⟩ := List.mem_map.mp hx
  exact ⟨r, h1, rfl, a⟩
section
variable {leaf : Str} (hL : leaf = "won" ∨ leaf = "not")
include hL
/-- a good paper is a leaf, a move or a row of answers -/
theorem good_cases {n : Nat} {d : D} (h : Paper (n + 1) d) (g : isTB leaf (n + 1) d = true) :
    (d = .tup [.str leaf]) ∨ (∃ m t, MvOk m ∧ Paper n t ∧ isTB leaf n t = true ∧ d = .tup [.str "move", m, t]) ∨
    (∃ R : List D, 0 < R.length ∧ R.length ≤ 3 + n ∧ (∀ x ∈ R, ∃ m t, MvOk m ∧ Paper n t ∧ isTB leaf n t = true ∧ x = .tup [m, t]) ∧ d = .tup [.str "all", .lst R]) := by
  rcases h with rfl | ⟨w, hw, rfl⟩ | rfl | ⟨m, hm, rfl⟩ | ⟨m, t, hm, ht, rfl⟩ | ⟨w, hw, rows, hl, hr, rfl⟩
  · simp [isTB] at g
  · simp only [isTB, beq_iff_eq] at g
    exact .inl (by rw [g])
  · simp [isTB] at g
  · obtain ⟨a, b, c, d, rfl⟩ := hm
    simp [isTB] at g
  · simp only [isTB, beq_self_eq_true, Bool.true_and] at g
    exact .inr (.inl ⟨m, t, hm, ht, g, rfl⟩)
  · simp only [isTB, Bool.and_eq_true, beq_iff_eq] at g
    obtain ⟨g1, g2, g3⟩ := g
    refine .inr (.inr ⟨rows.map rowD, ?_, by simpa using hl, fun x hx => ?_, by rw [g1]⟩)
    · cases rows <;> simp at g2 ⊢
    · obtain ⟨r, h1, rfl, h2⟩ := good_row rfl g3 hx
      exact ⟨r.1, r.2, (hr r h1).1, (hr r h1).2, h2, rfl⟩
theorem copy_spec : ∀ (n k : Nat) (d : D), n ≤ k → n ≤ 20 → Paper n d → isTB leaf n d = true → Mi.law_copy k [.d d] = .ok d [] := by
  have hLw : leaf ∈ words := by rcases hL with rfl | rfl <;> decide +kernel
  have ml : Str.ofString "move" ∈ words := by decide +kernel
  have al : Str.ofString "all" ∈ words := by decide +kernel
  have e1 : (leaf == Str.ofString "move") = false := by rcases hL with rfl | rfl <;> decide +kernel
  have e2 : (leaf == Str.ofString "all") = false := by rcases hL with rfl | rfl <;> decide +kernel
  have e3 : (Str.ofString "all" == Str.ofString "move") = false := by decide +kernel
  intro n
  induction n with
  | zero => intro k d _ _ h; exact h.elim
  | succ n ih =>
    intro k d hk hn h g
    obtain ⟨k, rfl⟩ : ∃ k', k = k' + 1 := ⟨k - 1, by omega⟩
    rcases good_cases hL h g with rfl | ⟨m, t, hm, ht, gt, rfl⟩ | ⟨R, hp, hl, hr, rfl⟩
    · simp [Mi.law_copy, ixD, atI, ixN, lenD, eqW hLw ml, eqW hLw al, e1, e2]
    · have i := ih k t (by omega) (by omega) ht gt
      simp [Mi.law_copy, ixD, atI, ixN, lenD, eqW ml ml, i]
    · have cg : ∀ ρ0 : DL.Env, ρ0 = [.d (.tup [.str "all", .lst R]), .no, .no] → compGo (tgU 2 (tgs1 (tgN 2) (tgs1 (tgN 1) (tgs0)))) (pureM true) (tupM (consM (getM 2) (consM (callM (Mi.law_copy k) (mdM [false] (consA (getM 1) (pureM [])))) (pureM [])))) [2, 1] [] R ρ0 = .ok R ρ0 := by
        intro ρ0 e0
        subst e0
        refine (compGo_map (f := id) _ _ (fun x hx => ?_) (by rw [sizeLine_eq]; simp; omega)).trans (by simp)
        obtain ⟨m, t, hm, ht, gt, rfl⟩ := hr x hx
        refine ⟨[.d (.tup [.str "all", .lst R]), .d t, .d m], [.d (.tup [.str "all", .lst R]), .d t, .d m], rfl, rfl, ?_, rfl, rfl⟩
        have i := ih k t (by omega) (by omega) ht gt
        simp [i]
      have c := cg _ rfl
      simp [Mi.law_copy, ixD, atI, ixN, lenD, eqW al ml, eqW al al, e3, itemsOf, wipeE, plainB, c, restE]
theorem deep_spec : ∀ (n k : Nat) (d : D), n ≤ k → n ≤ 20 → Paper n d → isTB leaf n d = true → Mi.law_deep k [.d d] = .ok (.int (dep n d)) [] ∧ Mi.depth_of k [.d d] = .ok (.int (dep n d)) [] := by
  have hLw : leaf ∈ words := by rcases hL with rfl | rfl <;> decide +kernel
  have ml : Str.ofString "move" ∈ words := by decide +kernel
  have al : Str.ofString "all" ∈ words := by decide +kernel
  have e1 : (leaf == Str.ofString "move") = false := by rcases hL with rfl | rfl <;> decide +kernel
  have e2 : (leaf == Str.ofString "all") = false := by rcases hL with rfl | rfl <;> decide +kernel
  have e3 : (Str.ofString "all" == Str.ofString "move") = false := by decide +kernel
  intro n
  induction n with
  | zero => intro k d _ _ h; exact h.elim
  | succ n ih =>
    intro k d hk hn h g
    obtain ⟨k, rfl⟩ : ∃ k', k = k' + 1 := ⟨k - 1, by omega⟩
    rcases good_cases hL h g with rfl | ⟨m, t, hm, ht, gt, rfl⟩ | ⟨R, hp, hl, hr, rfl⟩
    · constructor
      · simp [Mi.law_deep, ixD, atI, ixN, lenD, eqW hLw ml, eqW hLw al, e1, e2, dep]
      · simp [Mi.depth_of, ixD, atI, ixN, lenD, eqW hLw ml, eqW hLw al, e1, e2, dep]
    · obtain ⟨i, j⟩ := ih k t (by omega) (by omega) ht gt
      constructor
      · simp [Mi.law_deep, ixD, atI, ixN, lenD, eqW ml ml, i, dep]
      · simp [Mi.depth_of, ixD, atI, ixN, lenD, eqW ml ml, j, dep]
    · have mx : ∃ z, maxI (R.map fun r => dep n (sndD r)) = some z := by
        cases R with
        | nil => simp at hp
        | cons x xs => exact ⟨_, rfl⟩
      obtain ⟨z, hz⟩ := mx
      constructor
      · have cg : ∀ ρ0 : DL.Env, ρ0 = [.d (.tup [.str "all", .lst R]), .no, .no] → compGo (tgU 2 (tgs1 (tgN 2) (tgs1 (tgN 1) (tgs0)))) (pureM true) (callM (Mi.law_deep k) (mdM [false] (consA (getM 1) (pureM [])))) [2, 1] [] R ρ0 = .ok (R.map fun r => .int (dep n (sndD r))) ρ0 := by
          intro ρ0 e0
          subst e0
          refine (compGo_map (f := fun r => .int (dep n (sndD r))) _ _ (fun x hx => ?_) (by rw [sizeLine_eq]; simp; omega)).trans (by simp)
          obtain ⟨m, t, hm, ht, gt, rfl⟩ := hr x hx
          refine ⟨[.d (.tup [.str "all", .lst R]), .d t, .d m], [.d (.tup [.str "all", .lst R]), .d t, .d m], rfl, rfl, ?_, rfl, rfl⟩
          have i := (ih k t (by omega) (by omega) ht gt).1
          simp [i, sndD]
        have c := cg _ rfl
        simp [Mi.law_deep, ixD, atI, ixN, lenD, eqW al ml, eqW al al, e3, itemsOf, wipeE, plainB, c, restE, maxLD, intsOf_map, hz, dep]
      · have cg : ∀ ρ0 : DL.Env, ρ0 = [.d (.tup [.str "all", .lst R]), .no] → compGo (tgN 1) (pureM true) (callM (Mi.depth_of k) (mdM [false] (consA (op2 ixD (getM 1) (pureM (.int 1))) (pureM [])))) [1] [] R ρ0 = .ok (R.map fun r => .int (dep n (sndD r))) ρ0 := by
          intro ρ0 e0
          subst e0
          refine (compGo_map (f := fun r => .int (dep n (sndD r))) _ _ (fun x hx => ?_) (by rw [sizeLine_eq]; simp; omega)).trans (by simp)
          obtain ⟨m, t, hm, ht, gt, rfl⟩ := hr x hx
          refine ⟨[.d (.tup [.str "all", .lst R]), .d (.tup [m, t])], [.d (.tup [.str "all", .lst R]), .d (.tup [m, t])], rfl, rfl, ?_, rfl, rfl⟩
          have i := (ih k t (by omega) (by omega) ht gt).2
          simp [i, sndD, ixD, atI, ixN]
        have c := cg _ rfl
        simp [Mi.depth_of, ixD, atI, ixN, lenD, eqW al ml, eqW al al, e3, itemsOf, wipeE, plainB, c, restE, maxLD, intsOf_map, hz, dep]
end
theorem either_spec {d : D} {n : Nat} (hn : n ≤ 16) (h : Paper n d) : Mi.check_either [.d d] = if (isTB "won" n d || isTB "not" n d) = true then .ok .non [] else .exc "BadPaper" [] := by
  have a := is_tree_spec (leaf := "won") (.inl rfl) n 16 d hn (by omega) h
  have b := is_tree_spec (leaf := "not") (.inr rfl) n 16 d hn (by omega) h
  cases ha : isTB "won" n d <;> cases hb : isTB "not" n d <;> rw [ha] at a <;> rw [hb] at b <;> simp [Mi.check_either, a, b]
theorem depth_spec {d : D} {n : Nat} (hn : n ≤ 16) (h : Paper n d) : Mi.depth [.d d] = if (isTB "won" n d || isTB "not" n d) = true then .ok (.int (dep n d)) [] else .exc "BadPaper" [] := by
  have e := either_spec hn h
  split
  · rename_i g
    rw [if_pos g] at e
    have q : Mi.depth_of 16 [.d d] = .ok (.int (dep n d)) [] := by
      rcases Bool.or_eq_true_iff.mp g with g | g
      · exact (deep_spec (leaf := "won") (.inl rfl) n 16 d hn (by omega) h g).2
      · exact (deep_spec (leaf := "not") (.inr rfl) n 16 d hn (by omega) h g).2
    simp [Mi.depth, e, q]
  · rename_i g
    rw [if_neg g] at e
    simp [Mi.depth, e]
theorem which_spec : Mi.law_which [.exn "BadPaper"] = .ok (.int 5) [] := by
  have s1 : subT tab "BadYard" "BadPaper" = some false := by decide +kernel
  have s2 : subT tab "BadPosition" "BadPaper" = some false := by decide +kernel
  have s3 : subT tab "NoMove" "BadPaper" = some false := by decide +kernel
  have s4 : subT tab "Ended" "BadPaper" = some false := by decide +kernel
  have s5 : subT tab "BadSide" "BadPaper" = some false := by decide +kernel
  have s6 : subT tab "BadPaper" "BadPaper" = some true := by decide +kernel
  have s7 : subT tab "TooMany" "BadPaper" = some false := by decide +kernel
  have s8 : subT tab "NoWin" "BadPaper" = some false := by decide +kernel
  have s9 : subT tab "NoProblem" "BadPaper" = some false := by decide +kernel
  have sa : subT tab "BadText" "BadPaper" = some false := by decide +kernel
  have sb : subT tab "Nothing" "BadPaper" = some false := by decide +kernel
  have sc : subT tab "NoKin" "BadPaper" = some false := by decide +kernel
  have l : (tab.lookup (Str.ofString "BadPaper")).map (fun _ => true) = some true := by decide +kernel
  have c1 : cntD (.lst [.bl false, .bl false, .bl false, .bl false, .bl false, .bl true, .bl false, .bl false, .bl false, .bl false, .bl false, .bl false]) [.bl true] = some (.int 1) := by rfl
  have c2 : idxD (.lst [.bl false, .bl false, .bl false, .bl false, .bl false, .bl true, .bl false, .bl false, .bl false, .bl false, .bl false, .bl false]) [.bl true] = some (.int 5) := by rfl
  simp [Mi.law_which, s1, s2, s3, s4, s5, s6, s7, s8, s9, sa, sb, sc, l, addD, c1, c2, tyD]
end DL
end
section
namespace DL
open PySem PySem.Spec L2
open PyProof.Rows hiding St
def Good (leaf : Str) (n : Nat) (d : D) : Prop := Paper n d ∧ isTB leaf n d = true
def GRow (leaf : Str) (n : Nat) (x : D) : Prop := ∃ m t, MvOk m ∧ Good leaf n t ∧ x = .tup [m, t]
theorem Paper.all {w : Str} (hw : w = ("all" : Str) ∨ w = ("every" : Str)) {n : Nat} {R : List D} (hl : R.length ≤ 3 + n) (hr : ∀ x ∈ R, ∃ m t, MvOk m ∧ Paper n t ∧ x = .tup [m, t]) : Paper (n + 1) (.tup [.str w, .lst R]) := by
  refine .inr (.inr (.inr (.inr (.inr ⟨w, hw, R.map fun x => (match x with
    | .tup [m, t] => (m, t)
    | _ => (.non, .non)), by simpa using hl, fun r hr' => ?_, ?_⟩))))
  · obtain ⟨x, hx, rfl⟩ := List.mem_map.mp hr'
    obtain ⟨m, t, h1, h2, rfl⟩ := hr x hx
    exact ⟨h1, h2⟩
  · congr 2
    rw [List.map_map]
    congr 1
    have : R.map id = R := by simp
    conv => lhs; rw [← this]
    exact congrArg D.lst (List.map_congr_left fun x hx => by obtain ⟨m, t, h1, h2, rfl⟩ := hr x hx; rfl)
theorem Good.all {leaf : Str} {n : Nat} {R : List D} (h0 : 0 < R.length) (hl : R.length ≤ 3 + n) (hr : ∀ x ∈ R, GRow leaf n x) : Good leaf (n + 1) (.tup [.str "all", .lst R]) := by
  refine ⟨Paper.all (.inl rfl) hl fun x hx => ?_, ?_⟩
  · obtain ⟨m, t, h1, h2, rfl⟩ := hr x hx
    exact ⟨m, t, h1, h2.1, rfl⟩
  · have he : R.isEmpty = false := by cases R with
      | nil => simp at h0
      | cons => rfl
    have ha : R.all (rowB (isTB leaf n)) = true := by
      rw [List.all_eq_true]
      intro x hx
      obtain ⟨m, t, h1, h2, rfl⟩ := hr x hx
      exact h2.2
    simp [isTB, he, ha]
theorem Good.mv {leaf : Str} {n : Nat} {m t : D} (hm : MvOk m) (ht : Good leaf n t) : Good leaf (n + 1) (.tup [.str "move", m, t]) := by
  obtain ⟨a, b, c, d, rfl⟩ := id hm
  exact ⟨.inr (.inr (.inr (.inr (.inl ⟨_, t, hm, ht.1, rfl⟩)))), by simp [isTB, ht.2]⟩
section
variable {leaf : Str} (hL : leaf = "won" ∨ leaf = "not")
include hL
theorem Good.lf {n : Nat} : Good leaf (n + 1) (.tup [.str leaf]) := by
  have hLw : leaf ∈ words := by rcases hL with rfl | rfl <;> decide +kernel
  exact ⟨.inr (.inl ⟨leaf, hLw, rfl⟩), by simp [isTB]⟩
theorem drawn_spec (b : Int) : ∀ (deep k : Nat), deep + 1 ≤ k → ∀ a c : Int, ∃ t a' c', Good leaf (deep + 1) t ∧ Mi.law_drawn k [.own [.int a, .int b, .int c], .d (.int (deep : Int)), .d (.str leaf)] = .ok t [[.int a', .int b, .int c']] := by
  intro deep
  induction deep with
  | zero =>
    intro k hk a c
    obtain ⟨k, rfl⟩ : ∃ k', k = k' + 1 := ⟨k - 1, by omega⟩
    obtain ⟨r1, a1, c1, h1, h2, e1⟩ := take_spec a b c 3 (by omega) (by omega)
    refine ⟨_, a1, c1, Good.lf hL, ?_⟩
    simp [Mi.law_drawn, e1, putBack]
  | succ deep ih =>
    intro k hk a c
    obtain ⟨k, rfl⟩ : ∃ k', k = k' + 1 := ⟨k - 1, by omega⟩
    obtain ⟨r1, a1, c1, h1, h2, e1⟩ := take_spec a b c 3 (by omega) (by omega)
    have nd : ((deep : Int) + 1 == 0) = false := by simp; omega
    by_cases hk0 : r1 = 0
    · subst hk0
      refine ⟨_, a1, c1, Good.lf hL, ?_⟩
      simp [Mi.law_drawn, e1, putBack, nd]
    · obtain ⟨r2, a2, c2, h3, h4, e2⟩ := take_spec a1 b c1 3 (by omega) (by omega)
      have lp : ∀ (xs : List D) (a c : Int) (rows : List D) (s5 s6 : Sl), (∀ x ∈ xs, ∃ i, x = .int i) → rows.length + xs.length ≤ 1000 → ∃ (a' c' : Int) (new : List D) (s5' s6' : Sl), new.length = xs.length ∧ (∀ x ∈ new, GRow leaf (deep + 1) x) ∧
          forM (tgN 5) (seqM (setM 6 (tupM (consM (tupM (consM (callM Mi.law_take (mdM [true, false] (bindM (haveS 0) fun _ => consS 0 (consA (pureM (.int 4)) (pureM []))))) (consM (getM 5) (pureM [])))) (consM (tupM (consM (callM Mi.law_take (mdM [true, false] (bindM (haveS 0) fun _ => consS 0 (consA (pureM (.int 4)) (pureM []))))) (consM (callM Mi.law_take (mdM [true, false] (bindM (haveS 0) fun _ => consS 0 (consA (pureM (.int 4)) (pureM []))))) (pureM [])))) (pureM []))))) (dropM (mtO 4 appD (consM (tupM (consM (getM 6) (consM (callM (Mi.law_drawn k) (mdM [true, false, false] (bindM (haveS 0) fun _ => consS 0 (consA (op2 subD (getM 1) (pureM (.int 1))) (consA (getM 2) (pureM [])))))) (pureM [])))) (pureM []))))) xs
            [.own [.int a, .int b, .int c], .d (.int ((deep + 1 : Nat) : Int)), .d (.str leaf), .d (.int r1), .own rows, s5, s6] = .ok .nx [.own [.int a', .int b, .int c'], .d (.int ((deep + 1 : Nat) : Int)), .d (.str leaf), .d (.int r1), .own (rows ++ new), s5', s6'] := by
        intro xs
        induction xs with
        | nil => intro a c rows s5 s6 _ _; exact ⟨a, c, [], s5, s6, rfl, by simp, by simp [forM]⟩
        | cons x xs ihx =>
          intro a c rows s5 s6 hx hsz
          obtain ⟨i, rfl⟩ := hx x List.mem_cons_self
          obtain ⟨q1, a1, c1, _, _, e1⟩ := take_spec a b c 4 (by omega) (by omega)
          obtain ⟨q2, a2, c2, _, _, e2⟩ := take_spec a1 b c1 4 (by omega) (by omega)
          obtain ⟨q3, a3, c3, _, _, e3⟩ := take_spec a2 b c2 4 (by omega) (by omega)
          obtain ⟨t, a4, c4, hg, e4⟩ := ih k (by omega) a3 c3
          simp only [List.length_cons] at hsz
          obtain ⟨a5, c5, new, s5', s6', g1, g2, g3⟩ := ihx a4 c4 (rows ++ [.tup [.tup [.tup [.int q1, .int i], .tup [.int q2, .int q3]], t]]) (.d (.int i)) (.d (.tup [.tup [.int q1, .int i], .tup [.int q2, .int q3]])) (fun y hy => hx y (List.mem_cons_of_mem _ hy)) (by simp; omega)
          refine ⟨a5, c5, .tup [.tup [.tup [.int q1, .int i], .tup [.int q2, .int q3]], t] :: new, s5', s6', by simp [g1], fun y hy => ?_, ?_⟩
          · rcases List.mem_cons.mp hy with rfl | hy
            · exact ⟨_, t, ⟨_, _, _, _, rfl⟩, hg, rfl⟩
            · exact g2 y hy
          · have hz : rows.length < sizeLine := by rw [sizeLine_eq]; omega
            have s1 : ((deep : Int) + 1 - 1) = (deep : Int) := by omega
            simp only [Int.natCast_add, Int.natCast_one] at g3 ⊢
            simp [forM, e1, e2, e3, e4, putBack, appD, hz, s1, g3]
      have r12 : r1 = 1 ∨ r1 = 2 := by omega
      obtain ⟨N, hN⟩ : ∃ N : Nat, N = (1 + r1 % 2 * r2).toNat := ⟨_, rfl⟩
      have hN1 : 1 ≤ N ∧ N ≤ 3 ∧ (1 + r1 % 2 * r2) = (N : Int) := by rcases r12 with rfl | rfl <;> simp at hN ⊢ <;> omega
      have q0 : mulD (.int (r1 % 2)) (.int r2) = some (.int (r1 % 2 * r2)) := mul_small (by omega)
      obtain ⟨L, hLd⟩ : ∃ L, L = (List.range N).map fun (i : Nat) => D.int (0 + (i : Int)) := ⟨_, rfl⟩
      have hrg : rg1 [.int (1 + r1 % 2 * r2)] = some L := by
        rw [hN1.2.2, hLd]
        have : inRg (N : Int) = true := by simp [inRg]; omega
        simp [rg1, this]
      obtain ⟨a3, c3, new, s5, s6, g1, g2, g3⟩ := lp L a2 c2 [] .no .no (fun x hx => by rw [hLd] at hx; obtain ⟨i, _, rfl⟩ := List.mem_map.mp hx; exact ⟨_, rfl⟩) (by rw [hLd]; simp; omega)
      rw [hLd] at g1
      simp only [List.length_map, List.length_range] at g1
      have z0 : (r1 == 0) = false := by simpa using hk0
      simp only [Int.natCast_add, Int.natCast_one, List.nil_append] at g3
      rcases r12 with r12 | r12
      · have z1 : (r1 == 1) = true := by simpa using r12
        refine ⟨_, a3, c3, Good.all (R := new) (by omega) (by omega) g2, ?_⟩
        simp [Mi.law_drawn, e1, putBack, nd, e2, q0, hrg, g3, z0, z1]
      · have z1 : (r1 == 1) = false := by simp; omega
        obtain ⟨x, rs, rfl⟩ : ∃ x rs, new = x :: rs := by
          cases new with
          | nil => simp at g1; omega
          | cons x rs => exact ⟨x, rs, rfl⟩
        obtain ⟨m, t, hm, ht, rfl⟩ := g2 x List.mem_cons_self
        refine ⟨_, a3, c3, Good.mv hm ht, ?_⟩
        simp [Mi.law_drawn, e1, putBack, nd, e2, q0, hrg, g3, z0, z1, ixO, atI, ixN, ixD]
end
end DL
end
section
namespace DL
open PySem PySem.Spec L2
open PyProof.Rows hiding St
theorem ixN_nat {n j : Nat} (h : j < n) : ixN n (j : Int) = some j := by
  unfold ixN
  rw [if_pos (by omega), if_pos (by omega)]
  simp
theorem atI_nat {α : Type} {xs : List α} {j : Nat} {x : α} (h : xs[j]? = some x) : atI xs (j : Int) = some x := by
  have hj : j < xs.length := by
    rcases Nat.lt_or_ge j xs.length with h1 | h1
    · exact h1
    · rw [List.getElem?_eq_none h1] at h; cases h
  unfold atI
  rw [ixN_nat hj]
  exact h
theorem seq_nat {n j : Nat} (h : j < n) : seqIndex? (j : Int) n = some j := by
  have a : ¬ ((j : Int) < 0) := by omega
  have b : (decide (0 ≤ (j : Int)) && decide ((j : Int) < n)) = true := by
    rw [Bool.and_eq_true, decide_eq_true_eq, decide_eq_true_eq]
    constructor <;> omega
  unfold seqIndex?
  simp only [if_neg a, b, if_true]
  simp
theorem paper1 {n : Nat} {w : Str} (hw : w ∈ words) : Paper (n + 1) (.tup [.str w]) := .inr (.inl ⟨w, hw, rfl⟩)
theorem Paper.mv {n : Nat} {m t : D} (hm : MvOk m) (ht : Paper n t) : Paper (n + 1) (.tup [.str "move", m, t]) := .inr (.inr (.inr (.inr (.inl ⟨m, t, hm, ht, rfl⟩))))
theorem bent_all0 {R : List D} {m t : D} {j : Nat} (k : Nat) {b a c a1 c1 a2 c2 a3 c3 a4 c4 a5 c5 a6 c6 a7 c7 r1 q1 q2 q3 q4 : Int} (t1 : Mi.law_take [.own [.int a, .int b, .int c], .d (.int 12)] = .ok (.int r1) [[.int a1, .int b, .int c1]]) (t2 : Mi.law_take [.own [.int a1, .int b, .int c1], .d (.int 4)] = .ok (.int q1) [[.int a2, .int b, .int c2]]) (t3 : Mi.law_take [.own [.int a2, .int b, .int c2], .d (.int 4)] = .ok (.int q2) [[.int a3, .int b, .int c3]]) (t4 : Mi.law_take [.own [.int a3, .int b, .int c3], .d (.int 4)] = .ok (.int q3) [[.int a4, .int b, .int c4]]) (t5 : Mi.law_take [.own [.int a4, .int b, .int c4], .d (.int 4)] = .ok (.int q4) [[.int a5, .int b, .int c5]]) (t6 : Mi.law_take [.own [.int a5, .int b, .int c5], .d (.int (R.length : Int))] = .ok (.int (j : Int)) [[.int a6, .int b, .int c6]]) (hw : ¬ r1 < 6) (gj : R[j]? = some (.tup [m, t])) (hj : j < R.length) (hl : R.length < 1000) (t7 : Mi.law_take [.own [.int a6, .int b, .int c6], .d (.int 7)] = .ok (.int 0) [[.int a7, .int b, .int c7]]) : Mi.law_bent (k + 1) [.d (.tup [.str "all", .lst R]), .own [.int a, .int b, .int c], .d (.lst [])] = .ok (.tup [.str "all", .lst (R.eraseIdx j)]) [[.int a7, .int b, .int c7]] := by
  have al : Str.ofString "all" ∈ words := by decide +kernel
  have ml : Str.ofString "move" ∈ words := by decide +kernel
  have e3 : (Str.ofString "all" == Str.ofString "move") = false := by decide +kernel
  have ga := atI_nat gj
  have gn := ixN_nat hj
  have gs := seq_nat hj
  have i0 : ixD (.tup [m, t]) (.int 0) = some m := rfl
  have i1 : ixD (.tup [m, t]) (.int 1) = some t := rfl
  have i2 : ixD (.tup [.str "all", .lst R]) (.int 0) = some (.str "all") := rfl
  have i3 : ixD (.tup [.str "all", .lst R]) (.int 1) = some (.lst R) := rfl
  have jz : (j : Int) < 2 ^ 63 := by omega
  have rz : R.length < sizeLine := by rw [sizeLine_eq]; omega
  have gins : insD R [.int (j : Int), .tup [m, t]] = some (.non, R.take j ++ [.tup [m, t]] ++ R.drop j) := by
    show (if R.length < sizeLine ∧ 0 ≤ (j : Int) ∧ (j : Int) < 2 ^ 63 then some (D.non, R.take (j : Int).toNat ++ [D.tup [m, t]] ++ R.drop (j : Int).toNat) else none) = _
    rw [if_pos ⟨rz, by omega, jz⟩, Int.toNat_natCast]
  have gpop : popAtD R [.int (j : Int)] = some (.tup [m, t], R.eraseIdx j) := by
    show (if R.length ≤ sizeLine then (seqIndex? (j : Int) R.length).bind fun j => (R[j]?).map fun y => (y, R.eraseIdx j) else none) = _
    rw [if_pos (Nat.le_of_lt rz), gs]
    show (R[j]?).map _ = _
    rw [gj]; rfl
  simp [Mi.law_bent, t1, t2, t3, t4, t5, t6, t7, hw, putBack, i0, i1, i2, i3, eqW al ml, eqW al al, e3, listCD, gpop]
theorem bent_all1 {R : List D} {m t : D} {j : Nat} (k : Nat) {b a c a1 c1 a2 c2 a3 c3 a4 c4 a5 c5 a6 c6 a7 c7 r1 q1 q2 q3 q4 : Int} (t1 : Mi.law_take [.own [.int a, .int b, .int c], .d (.int 12)] = .ok (.int r1) [[.int a1, .int b, .int c1]]) (t2 : Mi.law_take [.own [.int a1, .int b, .int c1], .d (.int 4)] = .ok (.int q1) [[.int a2, .int b, .int c2]]) (t3 : Mi.law_take [.own [.int a2, .int b, .int c2], .d (.int 4)] = .ok (.int q2) [[.int a3, .int b, .int c3]]) (t4 : Mi.law_take [.own [.int a3, .int b, .int c3], .d (.int 4)] = .ok (.int q3) [[.int a4, .int b, .int c4]]) (t5 : Mi.law_take [.own [.int a4, .int b, .int c4], .d (.int 4)] = .ok (.int q4) [[.int a5, .int b, .int c5]]) (t6 : Mi.law_take [.own [.int a5, .int b, .int c5], .d (.int (R.length : Int))] = .ok (.int (j : Int)) [[.int a6, .int b, .int c6]]) (hw : ¬ r1 < 6) (gj : R[j]? = some (.tup [m, t])) (hj : j < R.length) (hl : R.length < 1000) (t7 : Mi.law_take [.own [.int a6, .int b, .int c6], .d (.int 7)] = .ok (.int 1) [[.int a7, .int b, .int c7]]) : Mi.law_bent (k + 1) [.d (.tup [.str "all", .lst R]), .own [.int a, .int b, .int c], .d (.lst [])] = .ok (.tup [.str "all", .lst R.reverse]) [[.int a7, .int b, .int c7]] := by
  have al : Str.ofString "all" ∈ words := by decide +kernel
  have ml : Str.ofString "move" ∈ words := by decide +kernel
  have e3 : (Str.ofString "all" == Str.ofString "move") = false := by decide +kernel
  have ga := atI_nat gj
  have gn := ixN_nat hj
  have gs := seq_nat hj
  have i0 : ixD (.tup [m, t]) (.int 0) = some m := rfl
  have i1 : ixD (.tup [m, t]) (.int 1) = some t := rfl
  have i2 : ixD (.tup [.str "all", .lst R]) (.int 0) = some (.str "all") := rfl
  have i3 : ixD (.tup [.str "all", .lst R]) (.int 1) = some (.lst R) := rfl
  have jz : (j : Int) < 2 ^ 63 := by omega
  have rz : R.length < sizeLine := by rw [sizeLine_eq]; omega
  have gins : insD R [.int (j : Int), .tup [m, t]] = some (.non, R.take j ++ [.tup [m, t]] ++ R.drop j) := by
    show (if R.length < sizeLine ∧ 0 ≤ (j : Int) ∧ (j : Int) < 2 ^ 63 then some (D.non, R.take (j : Int).toNat ++ [D.tup [m, t]] ++ R.drop (j : Int).toNat) else none) = _
    rw [if_pos ⟨rz, by omega, jz⟩, Int.toNat_natCast]
  simp [Mi.law_bent, t1, t2, t3, t4, t5, t6, t7, hw, putBack, i0, i1, i2, i3, eqW al ml, eqW al al, e3, listCD, revD]
theorem bent_all2 {R : List D} {m t : D} {j : Nat} (k : Nat) {b a c a1 c1 a2 c2 a3 c3 a4 c4 a5 c5 a6 c6 a7 c7 r1 q1 q2 q3 q4 : Int} (t1 : Mi.law_take [.own [.int a, .int b, .int c], .d (.int 12)] = .ok (.int r1) [[.int a1, .int b, .int c1]]) (t2 : Mi.law_take [.own [.int a1, .int b, .int c1], .d (.int 4)] = .ok (.int q1) [[.int a2, .int b, .int c2]]) (t3 : Mi.law_take [.own [.int a2, .int b, .int c2], .d (.int 4)] = .ok (.int q2) [[.int a3, .int b, .int c3]]) (t4 : Mi.law_take [.own [.int a3, .int b, .int c3], .d (.int 4)] = .ok (.int q3) [[.int a4, .int b, .int c4]]) (t5 : Mi.law_take [.own [.int a4, .int b, .int c4], .d (.int 4)] = .ok (.int q4) [[.int a5, .int b, .int c5]]) (t6 : Mi.law_take [.own [.int a5, .int b, .int c5], .d (.int (R.length : Int))] = .ok (.int (j : Int)) [[.int a6, .int b, .int c6]]) (hw : ¬ r1 < 6) (gj : R[j]? = some (.tup [m, t])) (hj : j < R.length) (hl : R.length < 1000) (t7 : Mi.law_take [.own [.int a6, .int b, .int c6], .d (.int 7)] = .ok (.int 2) [[.int a7, .int b, .int c7]]) : Mi.law_bent (k + 1) [.d (.tup [.str "all", .lst R]), .own [.int a, .int b, .int c], .d (.lst [])] = .ok (.tup [.str "all", .lst (R.take j ++ [.tup [m, t]] ++ R.drop j)]) [[.int a7, .int b, .int c7]] := by
  have al : Str.ofString "all" ∈ words := by decide +kernel
  have ml : Str.ofString "move" ∈ words := by decide +kernel
  have e3 : (Str.ofString "all" == Str.ofString "move") = false := by decide +kernel
  have ga := atI_nat gj
  have gn := ixN_nat hj
  have gs := seq_nat hj
  have i0 : ixD (.tup [m, t]) (.int 0) = some m := rfl
  have i1 : ixD (.tup [m, t]) (.int 1) = some t := rfl
  have i2 : ixD (.tup [.str "all", .lst R]) (.int 0) = some (.str "all") := rfl
  have i3 : ixD (.tup [.str "all", .lst R]) (.int 1) = some (.lst R) := rfl
  have jz : (j : Int) < 2 ^ 63 := by omega
  have rz : R.length < sizeLine := by rw [sizeLine_eq]; omega
  have gins : insD R [.int (j : Int), .tup [m, t]] = some (.non, R.take j ++ [.tup [m, t]] ++ R.drop j) := by
    show (if R.length < sizeLine ∧ 0 ≤ (j : Int) ∧ (j : Int) < 2 ^ 63 then some (D.non, R.take (j : Int).toNat ++ [D.tup [m, t]] ++ R.drop (j : Int).toNat) else none) = _
    rw [if_pos ⟨rz, by omega, jz⟩, Int.toNat_natCast]
  simp [Mi.law_bent, t1, t2, t3, t4, t5, t6, t7, hw, putBack, i0, i1, i2, i3, eqW al ml, eqW al al, e3, listCD, ixO, ga, gins]
theorem bent_all3 {R : List D} {m t : D} {j : Nat} (k : Nat) {b a c a1 c1 a2 c2 a3 c3 a4 c4 a5 c5 a6 c6 a7 c7 r1 q1 q2 q3 q4 : Int} (t1 : Mi.law_take [.own [.int a, .int b, .int c], .d (.int 12)] = .ok (.int r1) [[.int a1, .int b, .int c1]]) (t2 : Mi.law_take [.own [.int a1, .int b, .int c1], .d (.int 4)] = .ok (.int q1) [[.int a2, .int b, .int c2]]) (t3 : Mi.law_take [.own [.int a2, .int b, .int c2], .d (.int 4)] = .ok (.int q2) [[.int a3, .int b, .int c3]]) (t4 : Mi.law_take [.own [.int a3, .int b, .int c3], .d (.int 4)] = .ok (.int q3) [[.int a4, .int b, .int c4]]) (t5 : Mi.law_take [.own [.int a4, .int b, .int c4], .d (.int 4)] = .ok (.int q4) [[.int a5, .int b, .int c5]]) (t6 : Mi.law_take [.own [.int a5, .int b, .int c5], .d (.int (R.length : Int))] = .ok (.int (j : Int)) [[.int a6, .int b, .int c6]]) (hw : ¬ r1 < 6) (gj : R[j]? = some (.tup [m, t])) (hj : j < R.length) (hl : R.length < 1000) (t7 : Mi.law_take [.own [.int a6, .int b, .int c6], .d (.int 7)] = .ok (.int 3) [[.int a7, .int b, .int c7]]) : Mi.law_bent (k + 1) [.d (.tup [.str "all", .lst R]), .own [.int a, .int b, .int c], .d (.lst [])] = .ok (.tup [.str "all", .lst (R.set j (.tup [.tup [.tup [.int q1, .int q2], .tup [.int q3, .int q4]], t]))]) [[.int a7, .int b, .int c7]] := by
  have al : Str.ofString "all" ∈ words := by decide +kernel
  have ml : Str.ofString "move" ∈ words := by decide +kernel
  have e3 : (Str.ofString "all" == Str.ofString "move") = false := by decide +kernel
  have ga := atI_nat gj
  have gn := ixN_nat hj
  have gs := seq_nat hj
  have i0 : ixD (.tup [m, t]) (.int 0) = some m := rfl
  have i1 : ixD (.tup [m, t]) (.int 1) = some t := rfl
  have i2 : ixD (.tup [.str "all", .lst R]) (.int 0) = some (.str "all") := rfl
  have i3 : ixD (.tup [.str "all", .lst R]) (.int 1) = some (.lst R) := rfl
  have jz : (j : Int) < 2 ^ 63 := by omega
  have rz : R.length < sizeLine := by rw [sizeLine_eq]; omega
  have gins : insD R [.int (j : Int), .tup [m, t]] = some (.non, R.take j ++ [.tup [m, t]] ++ R.drop j) := by
    show (if R.length < sizeLine ∧ 0 ≤ (j : Int) ∧ (j : Int) < 2 ^ 63 then some (D.non, R.take (j : Int).toNat ++ [D.tup [m, t]] ++ R.drop (j : Int).toNat) else none) = _
    rw [if_pos ⟨rz, by omega, jz⟩, Int.toNat_natCast]
  simp [Mi.law_bent, t1, t2, t3, t4, t5, t6, t7, hw, putBack, i0, i1, i2, i3, eqW al ml, eqW al al, e3, listCD, ixO, ga, ixSet, gn]
theorem bent_all4 {R : List D} {m t : D} {j : Nat} (k : Nat) {b a c a1 c1 a2 c2 a3 c3 a4 c4 a5 c5 a6 c6 a7 c7 r1 q1 q2 q3 q4 : Int} (t1 : Mi.law_take [.own [.int a, .int b, .int c], .d (.int 12)] = .ok (.int r1) [[.int a1, .int b, .int c1]]) (t2 : Mi.law_take [.own [.int a1, .int b, .int c1], .d (.int 4)] = .ok (.int q1) [[.int a2, .int b, .int c2]]) (t3 : Mi.law_take [.own [.int a2, .int b, .int c2], .d (.int 4)] = .ok (.int q2) [[.int a3, .int b, .int c3]]) (t4 : Mi.law_take [.own [.int a3, .int b, .int c3], .d (.int 4)] = .ok (.int q3) [[.int a4, .int b, .int c4]]) (t5 : Mi.law_take [.own [.int a4, .int b, .int c4], .d (.int 4)] = .ok (.int q4) [[.int a5, .int b, .int c5]]) (t6 : Mi.law_take [.own [.int a5, .int b, .int c5], .d (.int (R.length : Int))] = .ok (.int (j : Int)) [[.int a6, .int b, .int c6]]) (hw : ¬ r1 < 6) (gj : R[j]? = some (.tup [m, t])) (hj : j < R.length) (hl : R.length < 1000) (t7 : Mi.law_take [.own [.int a6, .int b, .int c6], .d (.int 7)] = .ok (.int 4) [[.int a7, .int b, .int c7]]) : Mi.law_bent (k + 1) [.d (.tup [.str "all", .lst R]), .own [.int a, .int b, .int c], .d (.lst [])] = .ok (.tup [.str "move", m, t]) [[.int a7, .int b, .int c7]] := by
  have al : Str.ofString "all" ∈ words := by decide +kernel
  have ml : Str.ofString "move" ∈ words := by decide +kernel
  have e3 : (Str.ofString "all" == Str.ofString "move") = false := by decide +kernel
  have ga := atI_nat gj
  have gn := ixN_nat hj
  have gs := seq_nat hj
  have i0 : ixD (.tup [m, t]) (.int 0) = some m := rfl
  have i1 : ixD (.tup [m, t]) (.int 1) = some t := rfl
  have i2 : ixD (.tup [.str "all", .lst R]) (.int 0) = some (.str "all") := rfl
  have i3 : ixD (.tup [.str "all", .lst R]) (.int 1) = some (.lst R) := rfl
  have jz : (j : Int) < 2 ^ 63 := by omega
  have rz : R.length < sizeLine := by rw [sizeLine_eq]; omega
  have gins : insD R [.int (j : Int), .tup [m, t]] = some (.non, R.take j ++ [.tup [m, t]] ++ R.drop j) := by
    show (if R.length < sizeLine ∧ 0 ≤ (j : Int) ∧ (j : Int) < 2 ^ 63 then some (D.non, R.take (j : Int).toNat ++ [D.tup [m, t]] ++ R.drop (j : Int).toNat) else none) = _
    rw [if_pos ⟨rz, by omega, jz⟩, Int.toNat_natCast]
  simp [Mi.law_bent, t1, t2, t3, t4, t5, t6, t7, hw, putBack, i0, i1, i2, i3, eqW al ml, eqW al al, e3, listCD, ixO, ga]
theorem bent_all5 {R : List D} {m t : D} {j : Nat} (k : Nat) {b a c a1 c1 a2 c2 a3 c3 a4 c4 a5 c5 a6 c6 a7 c7 r1 q1 q2 q3 q4 : Int} (t1 : Mi.law_take [.own [.int a, .int b, .int c], .d (.int 12)] = .ok (.int r1) [[.int a1, .int b, .int c1]]) (t2 : Mi.law_take [.own [.int a1, .int b, .int c1], .d (.int 4)] = .ok (.int q1) [[.int a2, .int b, .int c2]]) (t3 : Mi.law_take [.own [.int a2, .int b, .int c2], .d (.int 4)] = .ok (.int q2) [[.int a3, .int b, .int c3]]) (t4 : Mi.law_take [.own [.int a3, .int b, .int c3], .d (.int 4)] = .ok (.int q3) [[.int a4, .int b, .int c4]]) (t5 : Mi.law_take [.own [.int a4, .int b, .int c4], .d (.int 4)] = .ok (.int q4) [[.int a5, .int b, .int c5]]) (t6 : Mi.law_take [.own [.int a5, .int b, .int c5], .d (.int (R.length : Int))] = .ok (.int (j : Int)) [[.int a6, .int b, .int c6]]) (hw : ¬ r1 < 6) (gj : R[j]? = some (.tup [m, t])) (hj : j < R.length) (hl : R.length < 1000) (t7 : Mi.law_take [.own [.int a6, .int b, .int c6], .d (.int 7)] = .ok (.int 5) [[.int a7, .int b, .int c7]]) : Mi.law_bent (k + 1) [.d (.tup [.str "all", .lst R]), .own [.int a, .int b, .int c], .d (.lst [])] = .ok (.tup [.str "all", .lst []]) [[.int a7, .int b, .int c7]] := by
  have al : Str.ofString "all" ∈ words := by decide +kernel
  have ml : Str.ofString "move" ∈ words := by decide +kernel
  have e3 : (Str.ofString "all" == Str.ofString "move") = false := by decide +kernel
  have ga := atI_nat gj
  have gn := ixN_nat hj
  have gs := seq_nat hj
  have i0 : ixD (.tup [m, t]) (.int 0) = some m := rfl
  have i1 : ixD (.tup [m, t]) (.int 1) = some t := rfl
  have i2 : ixD (.tup [.str "all", .lst R]) (.int 0) = some (.str "all") := rfl
  have i3 : ixD (.tup [.str "all", .lst R]) (.int 1) = some (.lst R) := rfl
  have jz : (j : Int) < 2 ^ 63 := by omega
  have rz : R.length < sizeLine := by rw [sizeLine_eq]; omega
  have gins : insD R [.int (j : Int), .tup [m, t]] = some (.non, R.take j ++ [.tup [m, t]] ++ R.drop j) := by
    show (if R.length < sizeLine ∧ 0 ≤ (j : Int) ∧ (j : Int) < 2 ^ 63 then some (D.non, R.take (j : Int).toNat ++ [D.tup [m, t]] ++ R.drop (j : Int).toNat) else none) = _
    rw [if_pos ⟨rz, by omega, jz⟩, Int.toNat_natCast]
  simp [Mi.law_bent, t1, t2, t3, t4, t5, t6, t7, hw, putBack, i0, i1, i2, i3, eqW al ml, eqW al al, e3, listCD]
theorem bent_all60 {R : List D} {m t : D} {j : Nat} (k : Nat) {b a c a1 c1 a2 c2 a3 c3 a4 c4 a5 c5 a6 c6 a7 c7 a8 c8 r1 q1 q2 q3 q4 : Int} (t1 : Mi.law_take [.own [.int a, .int b, .int c], .d (.int 12)] = .ok (.int r1) [[.int a1, .int b, .int c1]]) (t2 : Mi.law_take [.own [.int a1, .int b, .int c1], .d (.int 4)] = .ok (.int q1) [[.int a2, .int b, .int c2]]) (t3 : Mi.law_take [.own [.int a2, .int b, .int c2], .d (.int 4)] = .ok (.int q2) [[.int a3, .int b, .int c3]]) (t4 : Mi.law_take [.own [.int a3, .int b, .int c3], .d (.int 4)] = .ok (.int q3) [[.int a4, .int b, .int c4]]) (t5 : Mi.law_take [.own [.int a4, .int b, .int c4], .d (.int 4)] = .ok (.int q4) [[.int a5, .int b, .int c5]]) (t6 : Mi.law_take [.own [.int a5, .int b, .int c5], .d (.int (R.length : Int))] = .ok (.int (j : Int)) [[.int a6, .int b, .int c6]]) (hw : ¬ r1 < 6) (gj : R[j]? = some (.tup [m, t])) (hj : j < R.length) (hl : R.length < 1000) (t7 : Mi.law_take [.own [.int a6, .int b, .int c6], .d (.int 7)] = .ok (.int 6) [[.int a7, .int b, .int c7]]) (t8 : Mi.law_take [.own [.int a7, .int b, .int c7], .d (.int 3)] = .ok (.int 0) [[.int a8, .int b, .int c8]]) : Mi.law_bent (k + 1) [.d (.tup [.str "all", .lst R]), .own [.int a, .int b, .int c], .d (.lst [])] = .ok (.tup [.str "won"]) [[.int a8, .int b, .int c8]] := by
  have al : Str.ofString "all" ∈ words := by decide +kernel
  have ml : Str.ofString "move" ∈ words := by decide +kernel
  have e3 : (Str.ofString "all" == Str.ofString "move") = false := by decide +kernel
  have ga := atI_nat gj
  have gn := ixN_nat hj
  have gs := seq_nat hj
  have i0 : ixD (.tup [m, t]) (.int 0) = some m := rfl
  have i1 : ixD (.tup [m, t]) (.int 1) = some t := rfl
  have i2 : ixD (.tup [.str "all", .lst R]) (.int 0) = some (.str "all") := rfl
  have i3 : ixD (.tup [.str "all", .lst R]) (.int 1) = some (.lst R) := rfl
  have jz : (j : Int) < 2 ^ 63 := by omega
  have rz : R.length < sizeLine := by rw [sizeLine_eq]; omega
  have gins : insD R [.int (j : Int), .tup [m, t]] = some (.non, R.take j ++ [.tup [m, t]] ++ R.drop j) := by
    show (if R.length < sizeLine ∧ 0 ≤ (j : Int) ∧ (j : Int) < 2 ^ 63 then some (D.non, R.take (j : Int).toNat ++ [D.tup [m, t]] ++ R.drop (j : Int).toNat) else none) = _
    rw [if_pos ⟨rz, by omega, jz⟩, Int.toNat_natCast]
  simp [Mi.law_bent, t1, t2, t3, t4, t5, t6, t7, hw, putBack, i0, i1, i2, i3, eqW al ml, eqW al al, e3, listCD, t8, ixD, atI, ixN]
theorem bent_all61 {R : List D} {m t : D} {j : Nat} (k : Nat) {b a c a1 c1 a2 c2 a3 c3 a4 c4 a5 c5 a6 c6 a7 c7 a8 c8 r1 q1 q2 q3 q4 : Int} (t1 : Mi.law_take [.own [.int a, .int b, .int c], .d (.int 12)] = .ok (.int r1) [[.int a1, .int b, .int c1]]) (t2 : Mi.law_take [.own [.int a1, .int b, .int c1], .d (.int 4)] = .ok (.int q1) [[.int a2, .int b, .int c2]]) (t3 : Mi.law_take [.own [.int a2, .int b, .int c2], .d (.int 4)] = .ok (.int q2) [[.int a3, .int b, .int c3]]) (t4 : Mi.law_take [.own [.int a3, .int b, .int c3], .d (.int 4)] = .ok (.int q3) [[.int a4, .int b, .int c4]]) (t5 : Mi.law_take [.own [.int a4, .int b, .int c4], .d (.int 4)] = .ok (.int q4) [[.int a5, .int b, .int c5]]) (t6 : Mi.law_take [.own [.int a5, .int b, .int c5], .d (.int (R.length : Int))] = .ok (.int (j : Int)) [[.int a6, .int b, .int c6]]) (hw : ¬ r1 < 6) (gj : R[j]? = some (.tup [m, t])) (hj : j < R.length) (hl : R.length < 1000) (t7 : Mi.law_take [.own [.int a6, .int b, .int c6], .d (.int 7)] = .ok (.int 6) [[.int a7, .int b, .int c7]]) (t8 : Mi.law_take [.own [.int a7, .int b, .int c7], .d (.int 3)] = .ok (.int 1) [[.int a8, .int b, .int c8]]) : Mi.law_bent (k + 1) [.d (.tup [.str "all", .lst R]), .own [.int a, .int b, .int c], .d (.lst [])] = .ok (.tup [.str "not"]) [[.int a8, .int b, .int c8]] := by
  have al : Str.ofString "all" ∈ words := by decide +kernel
  have ml : Str.ofString "move" ∈ words := by decide +kernel
  have e3 : (Str.ofString "all" == Str.ofString "move") = false := by decide +kernel
  have ga := atI_nat gj
  have gn := ixN_nat hj
  have gs := seq_nat hj
  have i0 : ixD (.tup [m, t]) (.int 0) = some m := rfl
  have i1 : ixD (.tup [m, t]) (.int 1) = some t := rfl
  have i2 : ixD (.tup [.str "all", .lst R]) (.int 0) = some (.str "all") := rfl
  have i3 : ixD (.tup [.str "all", .lst R]) (.int 1) = some (.lst R) := rfl
  have jz : (j : Int) < 2 ^ 63 := by omega
  have rz : R.length < sizeLine := by rw [sizeLine_eq]; omega
  have gins : insD R [.int (j : Int), .tup [m, t]] = some (.non, R.take j ++ [.tup [m, t]] ++ R.drop j) := by
    show (if R.length < sizeLine ∧ 0 ≤ (j : Int) ∧ (j : Int) < 2 ^ 63 then some (D.non, R.take (j : Int).toNat ++ [D.tup [m, t]] ++ R.drop (j : Int).toNat) else none) = _
    rw [if_pos ⟨rz, by omega, jz⟩, Int.toNat_natCast]
  simp [Mi.law_bent, t1, t2, t3, t4, t5, t6, t7, hw, putBack, i0, i1, i2, i3, eqW al ml, eqW al al, e3, listCD, t8, ixD, atI, ixN]
theorem bent_all62 {R : List D} {m t : D} {j : Nat} (k : Nat) {b a c a1 c1 a2 c2 a3 c3 a4 c4 a5 c5 a6 c6 a7 c7 a8 c8 r1 q1 q2 q3 q4 : Int} (t1 : Mi.law_take [.own [.int a, .int b, .int c], .d (.int 12)] = .ok (.int r1) [[.int a1, .int b, .int c1]]) (t2 : Mi.law_take [.own [.int a1, .int b, .int c1], .d (.int 4)] = .ok (.int q1) [[.int a2, .int b, .int c2]]) (t3 : Mi.law_take [.own [.int a2, .int b, .int c2], .d (.int 4)] = .ok (.int q2) [[.int a3, .int b, .int c3]]) (t4 : Mi.law_take [.own [.int a3, .int b, .int c3], .d (.int 4)] = .ok (.int q3) [[.int a4, .int b, .int c4]]) (t5 : Mi.law_take [.own [.int a4, .int b, .int c4], .d (.int 4)] = .ok (.int q4) [[.int a5, .int b, .int c5]]) (t6 : Mi.law_take [.own [.int a5, .int b, .int c5], .d (.int (R.length : Int))] = .ok (.int (j : Int)) [[.int a6, .int b, .int c6]]) (hw : ¬ r1 < 6) (gj : R[j]? = some (.tup [m, t])) (hj : j < R.length) (hl : R.length < 1000) (t7 : Mi.law_take [.own [.int a6, .int b, .int c6], .d (.int 7)] = .ok (.int 6) [[.int a7, .int b, .int c7]]) (t8 : Mi.law_take [.own [.int a7, .int b, .int c7], .d (.int 3)] = .ok (.int 2) [[.int a8, .int b, .int c8]]) : Mi.law_bent (k + 1) [.d (.tup [.str "all", .lst R]), .own [.int a, .int b, .int c], .d (.lst [])] = .ok (.tup [.str "every", .lst R]) [[.int a8, .int b, .int c8]] := by
  have al : Str.ofString "all" ∈ words := by decide +kernel
  have ml : Str.ofString "move" ∈ words := by decide +kernel
  have e3 : (Str.ofString "all" == Str.ofString "move") = false := by decide +kernel
  have ga := atI_nat gj
  have gn := ixN_nat hj
  have gs := seq_nat hj
  have i0 : ixD (.tup [m, t]) (.int 0) = some m := rfl
  have i1 : ixD (.tup [m, t]) (.int 1) = some t := rfl
  have i2 : ixD (.tup [.str "all", .lst R]) (.int 0) = some (.str "all") := rfl
  have i3 : ixD (.tup [.str "all", .lst R]) (.int 1) = some (.lst R) := rfl
  have jz : (j : Int) < 2 ^ 63 := by omega
  have rz : R.length < sizeLine := by rw [sizeLine_eq]; omega
  have gins : insD R [.int (j : Int), .tup [m, t]] = some (.non, R.take j ++ [.tup [m, t]] ++ R.drop j) := by
    show (if R.length < sizeLine ∧ 0 ≤ (j : Int) ∧ (j : Int) < 2 ^ 63 then some (D.non, R.take (j : Int).toNat ++ [D.tup [m, t]] ++ R.drop (j : Int).toNat) else none) = _
    rw [if_pos ⟨rz, by omega, jz⟩, Int.toNat_natCast]
  simp [Mi.law_bent, t1, t2, t3, t4, t5, t6, t7, hw, putBack, i0, i1, i2, i3, eqW al ml, eqW al al, e3, listCD, t8, ixD, atI, ixN]
section
variable {leaf : Str} (hL : leaf = "won" ∨ leaf = "not")
include hL
theorem bent_leaf {n : Nat} (k : Nat) (b a a1 c c1 r1 : Int) (t1 : Mi.law_take [.own [.int a, .int b, .int c], .d (.int 12)] = .ok (.int r1) [[.int a1, .int b, .int c1]]) (h : Good leaf (n + 1) (.tup [.str leaf])) : ∃ t' a' c', Paper (n + 1 + 1) t' ∧ Mi.law_bent (k + 1) [.d (.tup [.str leaf]), .own [.int a, .int b, .int c], .d (.lst [])] = .ok t' [[.int a', .int b, .int c']] := by
  have hLw : leaf ∈ words := by rcases hL with rfl | rfl <;> decide +kernel
  have ml : Str.ofString "move" ∈ words := by decide +kernel
  have al : Str.ofString "all" ∈ words := by decide +kernel
  have wl : Str.ofString "won" ∈ words := by decide +kernel
  have nl : Str.ofString "not" ∈ words := by decide +kernel
  have ll : Str.ofString "lost" ∈ words := by decide +kernel
  have e1 : (leaf == Str.ofString "move") = false := by rcases hL with rfl | rfl <;> decide +kernel
  have e2 : (leaf == Str.ofString "all") = false := by rcases hL with rfl | rfl <;> decide +kernel
  have e3 : (Str.ofString "all" == Str.ofString "move") = false := by decide +kernel
  have e4 : (Str.ofString "move" == Str.ofString "all") = false := by decide +kernel
  obtain ⟨q1, a2, c2, _, _, t2⟩ := take_spec a1 b c1 4 (by omega) (by omega)
  obtain ⟨q2, a3, c3, _, _, t3⟩ := take_spec a2 b c2 4 (by omega) (by omega)
  obtain ⟨q3, a4, c4, _, _, t4⟩ := take_spec a3 b c3 4 (by omega) (by omega)
  obtain ⟨q4, a5, c5, _, _, t5⟩ := take_spec a4 b c4 4 (by omega) (by omega)
  obtain ⟨r2, a6, c6, h5, h6, t6⟩ := take_spec a5 b c5 6 (by omega) (by omega)
  have hm : MvOk (.tup [.tup [.int q1, .int q2], .tup [.int q3, .int q4]]) := ⟨_, _, _, _, rfl⟩
  have cs : r2 = 0 ∨ r2 = 1 ∨ r2 = 2 ∨ r2 = 3 ∨ r2 = 4 ∨ r2 = 5 := by omega
  rcases cs with rfl | rfl | rfl | rfl | rfl | rfl
  · refine ⟨_, a6, c6, paper1 wl, ?_⟩
    simp [Mi.law_bent, t1, t2, t3, t4, t5, t6, putBack, ixD, atI, ixN, lenD, eqW hLw ml, eqW hLw al, e1, e2]
  · refine ⟨_, a6, c6, paper1 nl, ?_⟩
    simp [Mi.law_bent, t1, t2, t3, t4, t5, t6, putBack, ixD, atI, ixN, lenD, eqW hLw ml, eqW hLw al, e1, e2]
  · refine ⟨_, a6, c6, .inr (.inr (.inl rfl)), ?_⟩
    simp [Mi.law_bent, t1, t2, t3, t4, t5, t6, putBack, ixD, atI, ixN, lenD, eqW hLw ml, eqW hLw al, e1, e2]
  · refine ⟨_, a6, c6, .inl rfl, ?_⟩
    simp [Mi.law_bent, t1, t2, t3, t4, t5, t6, putBack, ixD, atI, ixN, lenD, eqW hLw ml, eqW hLw al, e1, e2]
  · refine ⟨_, a6, c6, Paper.mv hm h.1, ?_⟩
    simp [Mi.law_bent, t1, t2, t3, t4, t5, t6, putBack, ixD, atI, ixN, lenD, eqW hLw ml, eqW hLw al, e1, e2]
  · refine ⟨_, a6, c6, paper1 ll, ?_⟩
    simp [Mi.law_bent, t1, t2, t3, t4, t5, t6, putBack, ixD, atI, ixN, lenD, eqW hLw ml, eqW hLw al, e1, e2]
theorem bent_move {n : Nat} {m t : D} (k : Nat) (b a a1 c c1 r1 : Int) (t1 : Mi.law_take [.own [.int a, .int b, .int c], .d (.int 12)] = .ok (.int r1) [[.int a1, .int b, .int c1]]) (hw : ¬ r1 < 6) (hm : MvOk m) (ht : Paper n t) : ∃ t' a' c', Paper (n + 1 + 1) t' ∧ Mi.law_bent (k + 1) [.d (.tup [.str "move", m, t]), .own [.int a, .int b, .int c], .d (.lst [])] = .ok t' [[.int a', .int b, .int c']] := by
  have hLw : leaf ∈ words := by rcases hL with rfl | rfl <;> decide +kernel
  have ml : Str.ofString "move" ∈ words := by decide +kernel
  have al : Str.ofString "all" ∈ words := by decide +kernel
  have wl : Str.ofString "won" ∈ words := by decide +kernel
  have nl : Str.ofString "not" ∈ words := by decide +kernel
  have ll : Str.ofString "lost" ∈ words := by decide +kernel
  have e1 : (leaf == Str.ofString "move") = false := by rcases hL with rfl | rfl <;> decide +kernel
  have e2 : (leaf == Str.ofString "all") = false := by rcases hL with rfl | rfl <;> decide +kernel
  have e3 : (Str.ofString "all" == Str.ofString "move") = false := by decide +kernel
  have e4 : (Str.ofString "move" == Str.ofString "all") = false := by decide +kernel
  have ht' : Paper (n + 1) t := ht.mono (by omega)
  obtain ⟨q1, a2, c2, _, _, t2⟩ := take_spec a1 b c1 4 (by omega) (by omega)
  obtain ⟨q2, a3, c3, _, _, t3⟩ := take_spec a2 b c2 4 (by omega) (by omega)
  obtain ⟨q3, a4, c4, _, _, t4⟩ := take_spec a3 b c3 4 (by omega) (by omega)
  obtain ⟨q4, a5, c5, _, _, t5⟩ := take_spec a4 b c4 4 (by omega) (by omega)
  obtain ⟨r2, a6, c6, h5, h6, t6⟩ := take_spec a5 b c5 7 (by omega) (by omega)
  have hm' : MvOk (.tup [.tup [.int q1, .int q2], .tup [.int q3, .int q4]]) := ⟨_, _, _, _, rfl⟩
  have cs : r2 = 0 ∨ r2 = 1 ∨ r2 = 2 ∨ r2 = 3 ∨ r2 = 4 ∨ r2 = 5 ∨ r2 = 6 := by omega
  rcases cs with rfl | rfl | rfl | rfl | rfl | rfl | rfl
  · refine ⟨_, a6, c6, ht'.mono (by omega), ?_⟩
    simp [Mi.law_bent, t1, t2, t3, t4, t5, t6, hw, putBack, ixD, atI, ixN, lenD, eqW ml ml, eqW ml al, e4, addD]
  · refine ⟨_, a6, c6, Paper.mv hm' ht', ?_⟩
    simp [Mi.law_bent, t1, t2, t3, t4, t5, t6, hw, putBack, ixD, atI, ixN, lenD, eqW ml ml, eqW ml al, e4, addD]
  · refine ⟨_, a6, c6, .inr (.inr (.inr (.inl ⟨m, hm, rfl⟩))), ?_⟩
    simp [Mi.law_bent, t1, t2, t3, t4, t5, t6, hw, putBack, ixD, atI, ixN, lenD, eqW ml ml, eqW ml al, e4, addD]
  · refine ⟨_, a6, c6, Paper.all (.inl rfl) (R := [.tup [m, t]]) (by simp; omega) (fun x hx => by simp at hx; exact ⟨m, t, hm, ht', hx⟩), ?_⟩
    simp [Mi.law_bent, t1, t2, t3, t4, t5, t6, hw, putBack, ixD, atI, ixN, lenD, eqW ml ml, eqW ml al, e4, addD]
  · refine ⟨_, a6, c6, paper1 wl, ?_⟩
    simp [Mi.law_bent, t1, t2, t3, t4, t5, t6, hw, putBack, ixD, atI, ixN, lenD, eqW ml ml, eqW ml al, e4, addD]
  · refine ⟨_, a6, c6, paper1 nl, ?_⟩
    simp [Mi.law_bent, t1, t2, t3, t4, t5, t6, hw, putBack, ixD, atI, ixN, lenD, eqW ml ml, eqW ml al, e4, addD]
  · refine ⟨_, a6, c6, Paper.mv hm' (paper1 ll), ?_⟩
    simp [Mi.law_bent, t1, t2, t3, t4, t5, t6, hw, putBack, ixD, atI, ixN, lenD, eqW ml ml, eqW ml al, e4, addD]
theorem bent_all {n : Nat} {R : List D} (k : Nat) (b a a1 c c1 r1 : Int) (t1 : Mi.law_take [.own [.int a, .int b, .int c], .d (.int 12)] = .ok (.int r1) [[.int a1, .int b, .int c1]]) (hn : n + 1 ≤ 20) (hw : ¬ r1 < 6) (hp : 0 < R.length) (hl : R.length ≤ 3 + n) (hr : ∀ x ∈ R, ∃ m t, MvOk m ∧ Paper n t ∧ isTB leaf n t = true ∧ x = .tup [m, t]) : ∃ t' a' c', Paper (n + 1 + 1) t' ∧ Mi.law_bent (k + 1) [.d (.tup [.str "all", .lst R]), .own [.int a, .int b, .int c], .d (.lst [])] = .ok t' [[.int a', .int b, .int c']] := by
  have hLw : leaf ∈ words := by rcases hL with rfl | rfl <;> decide +kernel
  have ml : Str.ofString "move" ∈ words := by decide +kernel
  have al : Str.ofString "all" ∈ words := by decide +kernel
  have wl : Str.ofString "won" ∈ words := by decide +kernel
  have nl : Str.ofString "not" ∈ words := by decide +kernel
  have ll : Str.ofString "lost" ∈ words := by decide +kernel
  have e1 : (leaf == Str.ofString "move") = false := by rcases hL with rfl | rfl <;> decide +kernel
  have e2 : (leaf == Str.ofString "all") = false := by rcases hL with rfl | rfl <;> decide +kernel
  have e3 : (Str.ofString "all" == Str.ofString "move") = false := by decide +kernel
  have e4 : (Str.ofString "move" == Str.ofString "all") = false := by decide +kernel
  have hr1 : ∀ x ∈ R, ∃ m t, MvOk m ∧ Paper (n + 1) t ∧ x = .tup [m, t] := fun x hx => by
    obtain ⟨m, t, h1, h2, _, h4⟩ := hr x hx
    exact ⟨m, t, h1, h2.mono (by omega), h4⟩
  obtain ⟨q1, a2, c2, _, _, t2⟩ := take_spec a1 b c1 4 (by omega) (by omega)
  obtain ⟨q2, a3, c3, _, _, t3⟩ := take_spec a2 b c2 4 (by omega) (by omega)
  obtain ⟨q3, a4, c4, _, _, t4⟩ := take_spec a3 b c3 4 (by omega) (by omega)
  obtain ⟨q4, a5, c5, _, _, t5⟩ := take_spec a4 b c4 4 (by omega) (by omega)
  obtain ⟨at_, a6, c6, h3, h4, t6⟩ := take_spec a5 b c5 (R.length : Int) (by omega) (by omega)
  obtain ⟨j, rfl⟩ := Int.eq_ofNat_of_zero_le h3
  have hj : j < R.length := by omega
  obtain ⟨m, t, hm, ht, gt, hx⟩ := hr _ (List.getElem_mem hj)
  have gj : R[j]? = some (.tup [m, t]) := by rw [List.getElem?_eq_getElem hj, hx]
  have ga := atI_nat gj
  have gn := ixN_nat hj
  have gs := seq_nat hj
  obtain ⟨r2, a7, c7, h5, h6, t7⟩ := take_spec a6 b c6 7 (by omega) (by omega)
  have hm' : MvOk (.tup [.tup [.int q1, .int q2], .tup [.int q3, .int q4]]) := ⟨_, _, _, _, rfl⟩
  have cs : r2 = 0 ∨ r2 = 1 ∨ r2 = 2 ∨ r2 = 3 ∨ r2 = 4 ∨ r2 = 5 ∨ r2 = 6 := by omega
  have i0 : ixD (.tup [m, t]) (.int 0) = some m := rfl
  have i1 : ixD (.tup [m, t]) (.int 1) = some t := rfl
  have i2 : ixD (.tup [.str "all", .lst R]) (.int 0) = some (.str "all") := rfl
  have i3 : ixD (.tup [.str "all", .lst R]) (.int 1) = some (.lst R) := rfl
  have jz : (j : Int) < 2 ^ 63 := by omega
  have rz : R.length < sizeLine := by rw [sizeLine_eq]; omega
  have gins : insD R [.int (j : Int), .tup [m, t]] = some (.non, R.take j ++ [.tup [m, t]] ++ R.drop j) := by
    show (if R.length < sizeLine ∧ 0 ≤ (j : Int) ∧ (j : Int) < 2 ^ 63 then some (D.non, R.take (j : Int).toNat ++ [D.tup [m, t]] ++ R.drop (j : Int).toNat) else none) = _
    rw [if_pos ⟨rz, by omega, jz⟩, Int.toNat_natCast]
  have mem_erase : ∀ x ∈ R.eraseIdx j, x ∈ R := fun x hx => List.mem_of_mem_eraseIdx hx
  rcases cs with rfl | rfl | rfl | rfl | rfl | rfl | rfl
  · refine ⟨_, a7, c7, Paper.all (.inl rfl) (R := R.eraseIdx j) (by rw [List.length_eraseIdx]; split <;> omega) (fun x hx => hr1 x (mem_erase x hx)), ?_⟩
    exact bent_all0 k t1 t2 t3 t4 t5 t6 hw gj hj (by omega) t7
  · refine ⟨_, a7, c7, Paper.all (.inl rfl) (R := R.reverse) (by simp; omega) (fun x hx => hr1 x (by simpa using hx)), ?_⟩
    exact bent_all1 k t1 t2 t3 t4 t5 t6 hw gj hj (by omega) t7
  · refine ⟨_, a7, c7, Paper.all (.inl rfl) (R := R.take j ++ [.tup [m, t]] ++ R.drop j) (by simp; omega) (fun x hx => ?_), ?_⟩
    · simp only [List.mem_append, List.mem_singleton] at hx
      rcases hx with (hx | rfl) | hx
      · exact hr1 x (List.mem_of_mem_take hx)
      · exact ⟨m, t, hm, ht.mono (by omega), rfl⟩
      · exact hr1 x (List.mem_of_mem_drop hx)
    · exact bent_all2 k t1 t2 t3 t4 t5 t6 hw gj hj (by omega) t7
  · refine ⟨_, a7, c7, Paper.all (.inl rfl) (R := R.set j (.tup [.tup [.tup [.int q1, .int q2], .tup [.int q3, .int q4]], t])) (by simp; omega) (fun x hx => ?_), ?_⟩
    · rcases List.mem_or_eq_of_mem_set hx with hx | rfl
      · exact hr1 x hx
      · exact ⟨_, t, hm', ht.mono (by omega), rfl⟩
    · exact bent_all3 k t1 t2 t3 t4 t5 t6 hw gj hj (by omega) t7
  · refine ⟨_, a7, c7, Paper.mv hm (ht.mono (Nat.le_succ n)), ?_⟩
    exact bent_all4 k t1 t2 t3 t4 t5 t6 hw gj hj (by omega) t7
  · refine ⟨_, a7, c7, Paper.all (.inl rfl) (R := []) (by simp) (by simp), ?_⟩
    exact bent_all5 k t1 t2 t3 t4 t5 t6 hw gj hj (by omega) t7
  · obtain ⟨r3, a8, c8, h7, h8, t8⟩ := take_spec a7 b c7 3 (by omega) (by omega)
    have cs : r3 = 0 ∨ r3 = 1 ∨ r3 = 2 := by omega
    rcases cs with rfl | rfl | rfl
    · refine ⟨_, a8, c8, paper1 wl, ?_⟩
      exact bent_all60 k t1 t2 t3 t4 t5 t6 hw gj hj (by omega) t7 t8
    · refine ⟨_, a8, c8, paper1 nl, ?_⟩
      exact bent_all61 k t1 t2 t3 t4 t5 t6 hw gj hj (by omega) t7 t8
    · refine ⟨_, a8, c8, Paper.all (.inr rfl) (R := R) (by omega) hr1, ?_⟩
      exact bent_all62 k t1 t2 t3 t4 t5 t6 hw gj hj (by omega) t7 t8
theorem bent_spec (b : Int) : ∀ (n k : Nat) (d : D), n ≤ k → n ≤ 20 → Good leaf n d → ∀ a c : Int, ∃ t a' c', Paper (n + 1) t ∧ Mi.law_bent k [.d d, .own [.int a, .int b, .int c], .d (.lst [])] = .ok t [[.int a', .int b, .int c']] := by
  have hLw : leaf ∈ words := by rcases hL with rfl | rfl <;> decide +kernel
  have ml : Str.ofString "move" ∈ words := by decide +kernel
  have al : Str.ofString "all" ∈ words := by decide +kernel
  have wl : Str.ofString "won" ∈ words := by decide +kernel
  have nl : Str.ofString "not" ∈ words := by decide +kernel
  have ll : Str.ofString "lost" ∈ words := by decide +kernel
  have e1 : (leaf == Str.ofString "move") = false := by rcases hL with rfl | rfl <;> decide +kernel
  have e2 : (leaf == Str.ofString "all") = false := by rcases hL with rfl | rfl <;> decide +kernel
  have e3 : (Str.ofString "all" == Str.ofString "move") = false := by decide +kernel
  have e4 : (Str.ofString "move" == Str.ofString "all") = false := by decide +kernel
  intro n
  induction n with
  | zero => intro k d _ _ h; exact h.1.elim
  | succ n ih =>
    intro k d hk hn h a c
    obtain ⟨k, rfl⟩ : ∃ k', k = k' + 1 := ⟨k - 1, by omega⟩
    obtain ⟨r1, a1, c1, _, _, t1⟩ := take_spec a b c 12 (by omega) (by omega)
    rcases good_cases hL h.1 h.2 with rfl | ⟨m, t, hm, ht, gt, rfl⟩ | ⟨R, hp, hl, hr, rfl⟩
    · exact bent_leaf hL k b a a1 c c1 r1 t1 h
    · have ht' : Paper (n + 1) t := ht.mono (by omega)
      by_cases hw : r1 < 6
      · obtain ⟨u, a2, c2, hu, t2⟩ := ih k t (by omega) (by omega) ⟨ht, gt⟩ a1 c1
        refine ⟨_, a2, c2, Paper.mv hm hu, ?_⟩
        simp [Mi.law_bent, t1, t2, hw, putBack, ixD, atI, ixN, lenD, eqW ml ml]
      · exact bent_move hL k b a a1 c c1 r1 t1 hw hm ht
    · have hr1 : ∀ x ∈ R, ∃ m t, MvOk m ∧ Paper (n + 1) t ∧ x = .tup [m, t] := fun x hx => by
        obtain ⟨m, t, h1, h2, _, h4⟩ := hr x hx
        exact ⟨m, t, h1, h2.mono (by omega), h4⟩
      by_cases hw : r1 < 6
      · obtain ⟨at_, a2, c2, h3, h4, t2⟩ := take_spec a1 b c1 (R.length : Int) (by omega) (by omega)
        obtain ⟨j, rfl⟩ := Int.eq_ofNat_of_zero_le h3
        have hj : j < R.length := by omega
        obtain ⟨m, t, hm, ht, gt, hx⟩ := hr _ (List.getElem_mem hj)
        have gj : R[j]? = some (.tup [m, t]) := by rw [List.getElem?_eq_getElem hj, hx]
        have ga := atI_nat gj
        have gn := ixN_nat hj
        obtain ⟨u, a3, c3, hu, t3⟩ := ih k t (by omega) (by omega) ⟨ht, gt⟩ a2 c2
        refine ⟨_, a3, c3, Paper.all (.inl rfl) (R := R.set j (.tup [m, u])) (by simp; omega) (fun x hx => ?_), ?_⟩
        · rcases List.mem_or_eq_of_mem_set hx with hx | rfl
          · exact hr1 x hx
          · exact ⟨m, u, hm, hu, rfl⟩
        · have i0 : ixD (.tup [m, t]) (.int 0) = some m := rfl
          have i1 : ixD (.tup [m, t]) (.int 1) = some t := rfl
          have i2 : ixD (.tup [.str "all", .lst R]) (.int 0) = some (.str "all") := rfl
          have i3 : ixD (.tup [.str "all", .lst R]) (.int 1) = some (.lst R) := rfl
          simp [Mi.law_bent, t1, t2, t3, hw, putBack, i0, i1, i2, i3, eqW al ml, eqW al al, e3, listCD, ixO, ga, ixSet, gn]
      · exact bent_all hL k b a a1 c c1 r1 t1 hn hw hp hl hr
end
end DL
end
section
namespace DL
open PySem PySem.Spec L2
open PyProof.Rows hiding St
theorem law_whole_spec (i : Int) : Mi.law_whole [.d (.int i)] = .ok (.bl true) [] := by
  simp [Mi.law_whole, isTy]
theorem law_math (ns : List Int) (hl : ns.length ≤ 63) : Mi.law [.d (.lst (ns.map D.int))] = .ok (.bl true) [] := by
  obtain ⟨a, b, c, e0⟩ := begin_spec ns hl
  obtain ⟨r1, a1, c1, g1, g2, t1⟩ := take_spec a b c 5 (by omega) (by omega)
  obtain ⟨r2, a2, c2, g3, g4, t2⟩ := take_spec a1 b c1 2 (by omega) (by omega)
  obtain ⟨dp, rfl⟩ := Int.eq_ofNat_of_zero_le g1
  obtain ⟨leaf, hL, hix⟩ : ∃ leaf : Str, (leaf = "won" ∨ leaf = "not") ∧ ixD (.lst [.str "won", .str "not"]) (.int r2) = some (.str leaf) := by
    have : r2 = 0 ∨ r2 = 1 := by omega
    rcases this with rfl | rfl
    · exact ⟨_, .inl rfl, rfl⟩
    · exact ⟨_, .inr rfl, rfl⟩
  obtain ⟨t, a3, c3, hg, t3⟩ := drawn_spec hL b dp 16 (by omega) a2 c2
  obtain ⟨r4, a4, c4, g5, g6, t4⟩ := take_spec a3 b c3 3 (by omega) (by omega)
  obtain ⟨d, a5, c5, hP, hst⟩ : ∃ (d : D) (a5 c5 : Int), Paper (dp + 2) d ∧ ∀ s3 s4 s5 s6 s7 : Sl,
      ifM (boolM (op2 eqD (callM Mi.law_take (mdM [true, false] (bindM (haveS 1) fun _ => consS 1 (consA (pureM (.int 3)) (pureM []))))) (pureM (.int 1)))) (setM 2 (callM (Mi.law_bent 16) (mdM [false, true, false] (consA (getM 2) (bindM (haveS 1) fun _ => consS 1 (consA (lstM (sizeM (pureM []))) (pureM []))))))) (skipM) [.d (.lst (ns.map D.int)), .own [.int a3, .int b, .int c3], .d t, s3, s4, s5, s6, s7] =
        .ok .nx [.d (.lst (ns.map D.int)), .own [.int a5, .int b, .int c5], .d d, s3, s4, s5, s6, s7] := by
    by_cases h : r4 = 1
    · subst h
      obtain ⟨d, a5, c5, hd, t5⟩ := bent_spec hL b (dp + 1) 16 t (by omega) (by omega) hg a4 c4
      exact ⟨d, a5, c5, hd, fun s3 s4 s5 s6 s7 => by simp [t4, t5, putBack]⟩
    · have h' : (r4 == 1) = false := by simpa using h
      exact ⟨t, a4, c4, hg.1.mono (by omega), fun s3 s4 s5 s6 s7 => by simp [t4, h', putBack]⟩
  have n16 : dp + 2 ≤ 16 := by omega
  have l1 := law_is_tree_spec (leaf := "won") (.inl rfl) (dp + 2) 16 d n16 (by omega) hP
  have l2 := law_is_tree_spec (leaf := "not") (.inr rfl) (dp + 2) 16 d n16 (by omega) hP
  have dsp := depth_spec n16 hP
  have okd := hP.ok (by omega)
  have wsp := which_spec
  have sub : subT tab "YardError" "BadPaper" = some true := by decide +kernel
  have ned : neD d d = some (.bl false) := by rw [neD_ok okd okd, eqvD_refl d (layD_of okd)]; rfl
  have wh := law_whole_spec (dep (dp + 2) d)
  by_cases good : (isTB "won" (dp + 2) d || isTB "not" (dp + 2) d) = true
  · rw [if_pos good] at dsp
    have cp : Mi.law_copy 16 [.d d] = .ok d [] := by
      rcases Bool.or_eq_true_iff.mp good with g | g
      · exact copy_spec (leaf := "won") (.inl rfl) (dp + 2) 16 d n16 (by omega) hP g
      · exact copy_spec (leaf := "not") (.inr rfl) (dp + 2) 16 d n16 (by omega) hP g
    have dpp : Mi.law_deep 16 [.d d] = .ok (.int (dep (dp + 2) d)) [] := by
      rcases Bool.or_eq_true_iff.mp good with g | g
      · exact (deep_spec (leaf := "won") (.inl rfl) (dp + 2) 16 d n16 (by omega) hP g).1
      · exact (deep_spec (leaf := "not") (.inr rfl) (dp + 2) 16 d n16 (by omega) hP g).1
    cases hw : isTB "won" (dp + 2) d with
    | true =>
      rw [hw] at l1
      simp [-ifM_ap, Mi.law, e0, t1, t2, hix, t3, putBack, hst]
      simp [l1, cp, dsp, ned, dpp, wh]
    | false =>
      have hn : isTB "not" (dp + 2) d = true := by simpa [hw] using good
      rw [hw] at l1
      rw [hn] at l2
      simp [-ifM_ap, Mi.law, e0, t1, t2, hix, t3, putBack, hst]
      simp [l1, l2, cp, dsp, ned, dpp, wh]
  · rw [if_neg good] at dsp
    rw [Bool.not_eq_true, Bool.or_eq_false_iff] at good
    rw [good.1] at l1
    rw [good.2] at l2
    simp [-ifM_ap, Mi.law, e0, t1, t2, hix, t3, putBack, hst]
    simp [l1, l2, dsp, ned, sub, wsp, isNb, noExn, putBack]
end DL
end
namespace DL
open PySem PySem.Spec L2
open PyProof.Rows hiding St
end DL
open PySem PySem.W PySem.Calls PyProof.Rows
theorem PySem.Challenge.cw_pieceyard_k30_depths_holds : PySem.Challenge.rw_pieceyard_k30_depths.Holds := by
  w_on; o_law
  refine HandSHeadRun.head_any (r := OpenLaw.row PySem.Challenge.rw_pieceyard_k30_depths) (q := view (OpenLaw.row PySem.Challenge.rw_pieceyard_k30_depths).prog [32]) (H := DL.hkk) (ob := DL.obb) (M := 4000) (loose := DL.loose) (d := HandSHeadRun.topDef (OpenLaw.row PySem.Challenge.rw_pieceyard_k30_depths).prog 32) (kwd := []) DL.obb_eq
    (by kernel_rfl) (fun s => by kernel_rfl) DL.run (by kernel_rfl) (by kernel_rfl) (by kernel_rfl) (by rfl) (by first | assumption | decide +kernel) (by decide +kernel) ⟨rfl, rfl, rfl, rfl, rfl, by decide +kernel⟩ ?hw ?hc
  case hw => w_witness2
  case hc =>
    refine DL.walk_ofX (l := PySem.Challenge.rw_pieceyard_k30_depths) (n := 63) (k := 19) (x := "script") (CX := fun w => L2.CX (PySem.Challenge.rw_pieceyard_k30_depths).prog w) rfl (by decide) (by kernel_rfl) ⟨rfl, by decide, by decide⟩ ?F (fun _ _ _ _ _ z => DL.cx_none z)
    intro w mg fa h Y G hmg0
    obtain ⟨K, KX, c, xt⟩ := Y
    have hmg : mg ("law" : PySem.Str) = some (.ref fa) := by
      have e : (HandSHeadRun.topDef (OpenLaw.row PySem.Challenge.rw_pieceyard_k30_depths).prog 32).name = ("law" : PySem.Str) := by kernel_rfl
      rw [← e]
      exact hmg0
    obtain ⟨fd, D, hs, hF⟩ := DL.law_ok (P := (PySem.Challenge.rw_pieceyard_k30_depths).prog) (w := w) KX G c xt
    have ea : fa = He.ga K "law" := by
      have z := D.1
      rw [hmg] at z
      exact PySem.Value.ref.inj (Option.some.inj z)
    subst ea
    exact ⟨K, fd, DL.spD ⟨K, mg⟩ none [false] false DL.Mi.law, KX, fun s v => (D.2.bindsA (ps := ["script"]) DL.bi_law s [v] rfl), fun H a ns hl hO hS => DL.law_sp hs hO hS (DL.law_math ns hl), fun base _ _ => hF base⟩
