import PyProof.Rows.All
import Wide.All
import OpenK.AllK
import Wide.FinOn
import HandS.ForMost
import HandS.Exc
import HandS.TryOnly
import HandS.ExcOwn
import HandS.WordsExc
import HandS.Flow
import HandS.TupAny
import HandS.IsInst
import HandS.SortInts
import HandS.More
import HandS.TupLe
import HandS.Deep
import PyProof.FactsAll.list_3
import KE.KMinBuiltin
import KE.DataMinKey
import HandS.SortKw
import PyProof.FactsAll.list_4
import HandS.ExcIs
import KE.KExcIs
import HandS.TupSets
import HandS.SetFor
import HandS.DictComp
import KE.IntTextLaws
import PyProof.EqAt
import PyProof.EqKinds
import PyProof.TupleCall
import HandS.Conv
import PySem.Challenge.RW_clausekeep_k21_solved_wide
import PyProof.FitsInt
set_option Elab.async false
set_option linter.all false
set_option maxRecDepth 100000
set_option maxHeartbeats 4000000
/-! The data layer, part A: data, what stands for it in the heap, states, judgements. -/
namespace DL
open PySem L2

inductive D where
  | non | bl (b : Bool) | int (i : Int) | str (s : Str) | lst (xs : List D) | tup (xs : List D) | dct (es : List (Int × D)) | scr (ns : List Int)

mutual
inductive Rp (K : PySem.W.Frag) (F : Hp) : V → D → Prop
  | non : Rp K F .non .non
  | bl (b : Bool) : Rp K F (.bl b) (.bl b)
  | int (i : Int) : Rp K F (.int i) (.int i)
  | str (x : Str) : Rp K F (.str x) (.str x)
  | lst {a : Addr} {vs : List V} {ds : List D} : F a = some (.lst vs) → RpA K F vs ds → Rp K F (.ref a) (.lst ds)
  | tup {a : Addr} {vs : List V} {ds : List D} : F a = some (.tup vs) → RpA K F vs ds → Rp K F (.ref a) (.tup ds)
  | dct {a : Addr} {kvs : List (Key × V)} {es : List (Int × D)} : Rd F a (.dK kvs) → RpK K F kvs es → Rp K F (.ref a) (.dct es)
  | scr {a : Addr} {ns : List Int} : SqL K F a (ns.map V.int) → Rp K F (.ref a) (.scr ns)
inductive RpA (K : PySem.W.Frag) (F : Hp) : List V → List D → Prop
  | nil : RpA K F [] []
  | cons {v : V} {vs : List V} {d : D} {ds : List D} : Rp K F v d → RpA K F vs ds → RpA K F (v :: vs) (d :: ds)
inductive RpK (K : PySem.W.Frag) (F : Hp) : List (Key × V) → List (Int × D) → Prop
  | nil : RpK K F [] []
  | cons {k : Int} {v : V} {vs : List (Key × V)} {d : D} {ds : List (Int × D)} : Rp K F v d → RpK K F vs ds → RpK K F ((.inl k, v) :: vs) ((k, d) :: ds)
end
section
variable {K : PySem.W.Frag} {F F' : Hp}
theorem rd_mono {a : Addr} {u : HO} (e : Same F F') (h : Rd F a u) : Rd F' a u := by
  rcases h with h | ⟨o, h⟩
  · exact .inl (e _ _ h)
  · exact .inr ⟨o, e _ _ h⟩
mutual
theorem Rp.mono (e : Same F F') : ∀ (d : D) (v : V), Rp K F v d → Rp K F' v d
  | .non, _, h => by cases h; exact .non
  | .bl b, _, h => by cases h; exact .bl b
  | .int i, _, h => by cases h; exact .int i
  | .str i, _, h => by cases h; exact .str i
  | .lst ds, _, h => by
    cases h with
    | lst h1 h2 => exact .lst (e _ _ h1) (RpA.mono e ds _ h2)
  | .tup ds, _, h => by
    cases h with
    | tup h1 h2 => exact .tup (e _ _ h1) (RpA.mono e ds _ h2)
  | .dct es, _, h => by
    cases h with
    | dct h1 h2 => exact .dct (rd_mono e h1) (RpK.mono e es _ h2)
  | .scr ns, _, h => by
    cases h with
    | scr h1 => exact .scr (e.seq h1)
theorem RpA.mono (e : Same F F') : ∀ (ds : List D) (vs : List V), RpA K F vs ds → RpA K F' vs ds
  | [], _, h => by cases h; exact .nil
  | d :: ds, _, h => by
    cases h with
    | cons h1 h2 => exact .cons (Rp.mono e d _ h1) (RpA.mono e ds _ h2)
theorem RpK.mono (e : Same F F') : ∀ (ds : List (Int × D)) (vs : List (Key × V)), RpK K F vs ds → RpK K F' vs ds
  | [], _, h => by cases h; exact .nil
  | (k, d) :: ds, _, h => by
    cases h with
    | cons h1 h2 => exact .cons (Rp.mono e d _ h1) (RpK.mono e ds _ h2)
end
theorem Rp.up {v : V} {d : D} (h : Rp K F v d) (e : Same F F') : Rp K F' v d := Rp.mono e d v h
theorem RpA.up {v : List V} {d : List D} (h : RpA K F v d) (e : Same F F') : RpA K F' v d := RpA.mono e d v h
theorem RpK.up {v : List (Key × V)} {d : List (Int × D)} (h : RpK K F v d) (e : Same F F') : RpK K F' v d := RpK.mono e d v h
theorem RpA.len : ∀ {vs : List V} {ds : List D}, RpA K F vs ds → vs.length = ds.length
  | [], _, h => by cases h; rfl
  | v :: vs, _, h => by
    cases h with
    | cons h1 h2 => simp [RpA.len h2]
theorem RpA.app : ∀ {vs : List V} {ds : List D} {ws : List V} {es : List D}, RpA K F vs ds → RpA K F ws es → RpA K F (vs ++ ws) (ds ++ es)
  | [], _, _, _, h, g => by cases h; exact g
  | v :: vs, _, _, _, h, g => by
    cases h with
    | cons h1 h2 => exact .cons h1 (RpA.app h2 g)
theorem RpA.one {v : V} {d : D} (h : Rp K F v d) : RpA K F [v] [d] := .cons h .nil
theorem RpA.getV : ∀ {vs : List V} {ds : List D} {i : Nat} {v : V}, RpA K F vs ds → vs[i]? = some v → ∃ d, ds[i]? = some d ∧ Rp K F v d
  | [], _, i, _, h, e => by simp at e
  | w :: vs, _, 0, v, h, e => by
    cases h with
    | cons h1 h2 =>
      simp at e; subst e
      exact ⟨_, rfl, h1⟩
  | w :: vs, _, i + 1, v, h, e => by
    cases h with
    | cons h1 h2 =>
      obtain ⟨d, q, r⟩ := RpA.getV (i := i) h2 (by simpa using e)
      exact ⟨d, by simpa using q, r⟩
theorem RpA.getD : ∀ {vs : List V} {ds : List D} {i : Nat} {d : D}, RpA K F vs ds → ds[i]? = some d → ∃ v, vs[i]? = some v ∧ Rp K F v d
  | _, [], i, _, h, e => by simp at e
  | _, w :: vs, 0, v, h, e => by
    cases h with
    | cons h1 h2 =>
      simp at e; subst e
      exact ⟨_, rfl, h1⟩
  | _, w :: vs, i + 1, v, h, e => by
    cases h with
    | cons h1 h2 =>
      obtain ⟨d, q, r⟩ := RpA.getD (i := i) h2 (by simpa using e)
      exact ⟨d, by simpa using q, r⟩
theorem RpA.drop : ∀ {vs : List V} {ds : List D} (n : Nat), RpA K F vs ds → RpA K F (vs.drop n) (ds.drop n)
  | _, _, 0, h => h
  | [], _, n + 1, h => by cases h; exact .nil
  | v :: vs, _, n + 1, h => by
    cases h with
    | cons h1 h2 => exact RpA.drop n h2
theorem RpA.take : ∀ {vs : List V} {ds : List D} (n : Nat), RpA K F vs ds → RpA K F (vs.take n) (ds.take n)
  | _, _, 0, h => .nil
  | [], _, n + 1, h => by cases h; exact .nil
  | v :: vs, _, n + 1, h => by
    cases h with
    | cons h1 h2 => exact .cons h1 (RpA.take n h2)
end

/-! ### results -/
inductive Exn where
  | noFormula (i : Int) | noStep | notRight (i : Int) | noRef | tooMany
inductive R (α : Type) where
  | ok (a : α) | exc (e : Exn) | bad
def R.bind {α β : Type} : R α → (α → R β) → R β
  | .ok a, f => f a
  | .exc e, _ => .exc e
  | .bad, _ => .bad
@[simp] theorem R.bind_ok {α β : Type} (a : α) (f : α → R β) : (R.ok a).bind f = f a := id rfl
@[simp] theorem R.bind_exc {α β : Type} (e : Exn) (f : α → R β) : (R.exc e).bind f = .exc e := id rfl
@[simp] theorem R.bind_bad {α β : Type} (f : α → R β) : (R.bad : R α).bind f = .bad := id rfl
/-- where nothing may be raised -/
def R.calm {α : Type} : R α → R α
  | .ok a => .ok a
  | _ => .bad

/-- the addresses of the program's own classes: of exceptions, of things (by number); the params of a def that changes them; the exception that a suite holds -/
structure CL where
  cF : Addr
  cS : Addr
  cN : Addr
  cR : Addr
  cT : Addr
  cl : Nat → Addr
  par : Nat → Option V
  exa : Addr
  excls : Value
  exd : Option Addr
def ExcIs (C : CL) (H : Hp) (cls : Value) (d : Option Addr) : Exn → Prop
  | .noFormula x => cls = .ref C.cF ∧ ∃ dd : Addr, d = some dd ∧ H dd = some (.xd [(("line" : Str), .int x)])
  | .noStep => cls = .ref C.cS ∧ d = none
  | .notRight x => cls = .ref C.cN ∧ ∃ dd : Addr, d = some dd ∧ H dd = some (.xd [(("place" : Str), .int x)])
  | .noRef => cls = .ref C.cR ∧ d = none
  | .tooMany => cls = .ref C.cT ∧ d = none

/-! ### the heap grows -/
/-- all but tuples -/
def notTup : HO → Bool
  | .tup _ => false
  | _ => true
structure Ext (F H F' H' : Hp) : Prop where
  ff : Same F F'
  fh : Same F' H'
  hh : Same H H'
  old : ∀ a o, H a = some o → notTup o = true → F' a = F a
section
variable {F H F1 H1 F2 H2 : Hp}
theorem Ext.refl (h : Same F H) : Ext F H F H := ⟨Same.refl _, h, Same.refl _, fun _ _ _ _ => rfl⟩
theorem Ext.trans (a : Ext F H F1 H1) (b : Ext F1 H1 F2 H2) : Ext F H F2 H2 :=
  ⟨a.ff.trans b.ff, b.fh, a.hh.trans b.hh, fun p o h n => (b.old p o (a.hh p o h) n).trans (a.old p o h n)⟩
theorem Ext.from (a : Ext F H F1 H1) : Ext F1 H1 F1 H1 := Ext.refl a.fh
theorem same_new {p : Addr} {o : HO} (h : H p = none) : Same H (upd H p o) := fun b u q => by rw [upd_ne (ne_of_none q h)]; exact q
theorem none_of {p : Addr} (e : Same F H) (h : H p = none) : F p = none := e.free h
/-- a new object, known to all -/
theorem Ext.new {p : Addr} {o : HO} (h : Same F H) (hp : H p = none) : Ext F H (upd F p o) (upd H p o) := by
  have fp : F p = none := none_of h hp
  refine ⟨same_new fp, fun b u q => ?_, same_new hp, fun b u q _ => by rw [upd_ne (ne_of_none q hp)]⟩
  by_cases e : b = p
  · subst e; rw [upd_same] at q ⊢; exact q
  · rw [upd_ne e] at q ⊢; exact h _ _ q
/-- a new object, kept apart -/
theorem Ext.newO {p : Addr} {o : HO} (h : Same F H) (hp : H p = none) : Ext F H F (upd H p o) :=
  ⟨Same.refl _, h.trans (same_new hp), same_new hp, fun _ _ _ _ => rfl⟩
/-- an object that was kept apart, known to all from now on -/
theorem Ext.froz {p : Addr} {o : HO} (a : Ext F H F1 H1) (h0 : H p = none) (h1 : H1 p = some o) (hf : F1 p = none) : Ext F H (upd F1 p o) H1 := by
  refine ⟨a.ff.trans (same_new hf), fun b u q => ?_, a.hh, fun b u q n => ?_⟩
  · by_cases e : b = p
    · subst e; rw [upd_same] at q; cases q; exact h1
    · rw [upd_ne e] at q; exact a.fh _ _ q
  · rw [upd_ne (ne_of_none q h0)]; exact a.old b u q n
end

/-! ### what is to follow -/
def Wish (C : CL) (W : WX) (σ : St) (F H : Hp) (e : Exn) : Prop := ∀ cls d F' H', Ext F H F' H' → ExcIs C H' cls d e → W cls d σ H'
theorem Wish.up {C : CL} {W : WX} {σ : St} {F H F1 H1 : Hp} {e : Exn} (h : Wish C W σ F H e) (x : Ext F H F1 H1) : Wish C W σ F1 H1 e := fun cls d F' H' y z => h cls d F' H' (x.trans y) z
def Post (C : CL) (K : PySem.W.Frag) (W : WX) (σ : St) (F H : Hp) (r : R D) (Q : VK) : Prop := match r with
  | .ok x => ∀ v F' H', Ext F H F' H' → Rp K F' v x → Q v H'
  | .exc e => Wish C W σ F H e
  | .bad => False
def PostT (C : CL) (K : PySem.W.Frag) (W : WX) (σ : St) (F H : Hp) (r : R Bool) (Q : Bool → Hp → Prop) : Prop := match r with
  | .ok b => ∀ F' H', Ext F H F' H' → Q b H'
  | .exc e => Wish C W σ F H e
  | .bad => False
def Vw (K : PySem.W.Frag) (F H : Hp) (v : V) (d : D) : Prop :=
  Rp K F v d ∨ (∃ p ws es, v = .ref p ∧ d = .lst es ∧ H p = some (.lst ws) ∧ RpA K F ws es) ∨ ∃ p kvs es, v = .ref p ∧ d = .dct es ∧ H p = some (.dK kvs) ∧ RpK K F kvs es
/-- a list of values, read at once -/
inductive VwA (K : PySem.W.Frag) (F H : Hp) : List V → List D → Prop
  | nil : VwA K F H [] []
  | cons {v : V} {vs : List V} {d : D} {ds : List D} : Vw K F H v d → VwA K F H vs ds → VwA K F H (v :: vs) (d :: ds)
section
variable {C : CL} {K : PySem.W.Frag} {W : WX} {σ : St} {F H F1 H1 : Hp} {v : V} {d : D}
theorem Vw.of (h : Rp K F v d) : Vw K F H v d := .inl h
theorem Vw.up (h : Vw K F H v d) (e : Ext F H F1 H1) : Vw K F1 H1 v d := by
  rcases h with h | ⟨p, ws, es, h1, h2, h3, h4⟩ | ⟨p, ws, es, h1, h2, h3, h4⟩
  · exact .inl (h.up e.ff)
  · exact .inr (.inl ⟨p, ws, es, h1, h2, e.hh _ _ h3, h4.up e.ff⟩)
  · exact .inr (.inr ⟨p, ws, es, h1, h2, e.hh _ _ h3, h4.up e.ff⟩)
theorem Vw.rp (h : Vw K F H v d) (e : Same F H) : Rp K H v d := by
  rcases h with h | ⟨p, ws, es, h1, h2, h3, h4⟩ | ⟨p, ws, es, h1, h2, h3, h4⟩
  · exact h.up e
  · subst h1 h2
    exact .lst h3 (h4.up e)
  · subst h1 h2
    exact .dct (.inl h3) (h4.up e)
theorem VwA.up : ∀ {vs : List V} {ds : List D}, VwA K F H vs ds → Ext F H F1 H1 → VwA K F1 H1 vs ds
  | _, _, .nil, _ => .nil
  | _, _, .cons h t, e => .cons (Vw.up h e) (VwA.up t e)
theorem VwA.rp : ∀ {vs : List V} {ds : List D}, VwA K F H vs ds → Same F H → RpA K H vs ds
  | _, _, .nil, _ => .nil
  | _, _, .cons h t, e => .cons (Vw.rp h e) (VwA.rp t e)
theorem VwA.of : ∀ {vs : List V} {ds : List D}, RpA K F vs ds → VwA K F H vs ds
  | _, [], h => by cases h; exact .nil
  | _, d :: ds, h => by
    cases h with
    | cons h1 h2 => exact .cons (.inl h1) (VwA.of h2)
end
def PostV (C : CL) (K : PySem.W.Frag) (W : WX) (σ : St) (F H : Hp) (r : R D) (Q : VK) : Prop := match r with
  | .ok x => ∀ v F' H', Ext F H F' H' → Vw K F' H' v x → Q v H'
  | .exc e => Wish C W σ F H e
  | .bad => False
def PostA (C : CL) (K : PySem.W.Frag) (W : WX) (σ : St) (F H : Hp) (r : R (List D)) (Q : List V → Hp → Prop) : Prop := match r with
  | .ok x => ∀ v F' H', Ext F H F' H' → VwA K F' H' v x → Q v H'
  | .exc e => Wish C W σ F H e
  | .bad => False
/-- arguments that are known to all -/
def PostAR (C : CL) (K : PySem.W.Frag) (W : WX) (σ : St) (F H : Hp) (r : R (List D)) (Q : List V → Hp → Prop) : Prop := match r with
  | .ok x => ∀ v F' H', Ext F H F' H' → RpA K F' v x → Q v H'
  | .exc e => Wish C W σ F H e
  | .bad => False
/-- a new list that nobody else knows -/
def PostN (C : CL) (K : PySem.W.Frag) (W : WX) (σ : St) (F H : Hp) (r : R (List D)) (Q : VK) : Prop := match r with
  | .ok ds => ∀ p vs F' H', Ext F H F' H' → H p = none → F' p = none → H' p = some (.lst vs) → RpA K F' vs ds → Q (.ref p) H'
  | .exc e => Wish C W σ F H e
  | .bad => False
def PostND (C : CL) (K : PySem.W.Frag) (W : WX) (σ : St) (F H : Hp) (r : R (List (Int × D))) (Q : VK) : Prop := match r with
  | .ok ds => ∀ p vs F' H', Ext F H F' H' → H p = none → F' p = none → H' p = some (.dK vs) → RpK K F' vs ds → Q (.ref p) H'
  | .exc e => Wish C W σ F H e
  | .bad => False

section
variable {C : CL} {K : PySem.W.Frag} {W : WX} {σ : St} {F H F1 H1 : Hp}
theorem Post.up {r : R D} {Q : VK} (h : Post C K W σ F H r Q) (e : Ext F H F1 H1) : Post C K W σ F1 H1 r Q := by
  cases r with
  | ok x => exact fun v F' H' y z => h v F' H' (e.trans y) z
  | exc x => exact Wish.up h e
  | bad => exact h
theorem PostV.up {r : R D} {Q : VK} (h : PostV C K W σ F H r Q) (e : Ext F H F1 H1) : PostV C K W σ F1 H1 r Q := by
  cases r with
  | ok x => exact fun v F' H' y z => h v F' H' (e.trans y) z
  | exc x => exact Wish.up h e
  | bad => exact h
theorem PostA.up {r : R (List D)} {Q : List V → Hp → Prop} (h : PostA C K W σ F H r Q) (e : Ext F H F1 H1) : PostA C K W σ F1 H1 r Q := by
  cases r with
  | ok x => exact fun v F' H' y z => h v F' H' (e.trans y) z
  | exc x => exact Wish.up h e
  | bad => exact h
theorem PostAR.up {r : R (List D)} {Q : List V → Hp → Prop} (h : PostAR C K W σ F H r Q) (e : Ext F H F1 H1) : PostAR C K W σ F1 H1 r Q := by
  cases r with
  | ok x => exact fun v F' H' y z => h v F' H' (e.trans y) z
  | exc x => exact Wish.up h e
  | bad => exact h
theorem PostT.up {r : R Bool} {Q : Bool → Hp → Prop} (h : PostT C K W σ F H r Q) (e : Ext F H F1 H1) : PostT C K W σ F1 H1 r Q := by
  cases r with
  | ok x => exact fun F' H' y => h F' H' (e.trans y)
  | exc x => exact Wish.up h e
  | bad => exact h
theorem PostN.up {r : R (List D)} {Q : VK} (h : PostN C K W σ F H r Q) (e : Ext F H F1 H1) : PostN C K W σ F1 H1 r Q := by
  cases r with
  | ok x => exact fun p vs F' H' y h0 hf hp z => h p vs F' H' (e.trans y) (e.hh.free h0) hf hp z
  | exc x => exact Wish.up h e
  | bad => exact h
theorem PostND.up {r : R (List (Int × D))} {Q : VK} (h : PostND C K W σ F H r Q) (e : Ext F H F1 H1) : PostND C K W σ F1 H1 r Q := by
  cases r with
  | ok x => exact fun p vs F' H' y h0 hf hp z => h p vs F' H' (e.trans y) (e.hh.free h0) hf hp z
  | exc x => exact Wish.up h e
  | bad => exact h
/-- one part, then what is made of it: PX is the later wish -/
theorem Post.bind {α : Type} {r : R D} {f : D → R α} {G : Hp → Hp → R α → Prop} {Q : VK} (h : G F H (r.bind f)) (up : ∀ F1 H1 x, Ext F H F1 H1 → G F H x → G F1 H1 x) (ge : ∀ e, G F H (.exc e) → Wish C W σ F H e) (gb : G F H .bad → False)
    (k : ∀ x v F1 H1, Ext F H F1 H1 → Rp K F1 v x → G F1 H1 (f x) → Q v H1) : Post C K W σ F H r Q := by
  cases r with
  | ok x => exact fun v F1 H1 e r => k x v F1 H1 e r (up F1 H1 _ e h)
  | exc e => exact ge e h
  | bad => exact gb h
theorem PostV.bind {α : Type} {r : R D} {f : D → R α} {G : Hp → Hp → R α → Prop} {Q : VK} (h : G F H (r.bind f)) (up : ∀ F1 H1 x, Ext F H F1 H1 → G F H x → G F1 H1 x) (ge : ∀ e, G F H (.exc e) → Wish C W σ F H e) (gb : G F H .bad → False)
    (k : ∀ x v F1 H1, Ext F H F1 H1 → Vw K F1 H1 v x → G F1 H1 (f x) → Q v H1) : PostV C K W σ F H r Q := by
  cases r with
  | ok x => exact fun v F1 H1 e r => k x v F1 H1 e r (up F1 H1 _ e h)
  | exc e => exact ge e h
  | bad => exact gb h
theorem PostA.bind {α : Type} {r : R (List D)} {f : List D → R α} {G : Hp → Hp → R α → Prop} {Q : List V → Hp → Prop} (h : G F H (r.bind f)) (up : ∀ F1 H1 x, Ext F H F1 H1 → G F H x → G F1 H1 x) (ge : ∀ e, G F H (.exc e) → Wish C W σ F H e) (gb : G F H .bad → False)
    (k : ∀ x v F1 H1, Ext F H F1 H1 → VwA K F1 H1 v x → G F1 H1 (f x) → Q v H1) : PostA C K W σ F H r Q := by
  cases r with
  | ok x => exact fun v F1 H1 e r => k x v F1 H1 e r (up F1 H1 _ e h)
  | exc e => exact ge e h
  | bad => exact gb h
theorem PostAR.bind {α : Type} {r : R (List D)} {f : List D → R α} {G : Hp → Hp → R α → Prop} {Q : List V → Hp → Prop} (h : G F H (r.bind f)) (up : ∀ F1 H1 x, Ext F H F1 H1 → G F H x → G F1 H1 x) (ge : ∀ e, G F H (.exc e) → Wish C W σ F H e) (gb : G F H .bad → False)
    (k : ∀ x v F1 H1, Ext F H F1 H1 → RpA K F1 v x → G F1 H1 (f x) → Q v H1) : PostAR C K W σ F H r Q := by
  cases r with
  | ok x => exact fun v F1 H1 e r => k x v F1 H1 e r (up F1 H1 _ e h)
  | exc e => exact ge e h
  | bad => exact gb h
theorem PostT.bind {α : Type} {r : R Bool} {f : Bool → R α} {G : Hp → Hp → R α → Prop} {Q : Bool → Hp → Prop} (h : G F H (r.bind f)) (up : ∀ F1 H1 x, Ext F H F1 H1 → G F H x → G F1 H1 x) (ge : ∀ e, G F H (.exc e) → Wish C W σ F H e) (gb : G F H .bad → False)
    (k : ∀ x F1 H1, Ext F H F1 H1 → G F1 H1 (f x) → Q x H1) : PostT C K W σ F H r Q := by
  cases r with
  | ok x => exact fun F1 H1 e => k x F1 H1 e (up F1 H1 _ e h)
  | exc e => exact ge e h
  | bad => exact gb h
/-- known to all: a new list -/
theorem PostN.of_post {r : R (List D)} {Q : VK} (h : Post C K W σ F H (r.bind fun ds => .ok (.lst ds)) Q) : PostN C K W σ F H r Q := by
  cases r with
  | ok ds => exact fun p vs F' H' e h0 hf hp ra => h (.ref p) (upd F' p (.lst vs)) H' (e.froz h0 hp hf) (.lst upd_same (ra.up (same_new hf)))
  | exc x => exact h
  | bad => exact h
theorem PostND.of_post {r : R (List (Int × D))} {Q : VK} (h : Post C K W σ F H (r.bind fun ds => .ok (.dct ds)) Q) : PostND C K W σ F H r Q := by
  cases r with
  | ok ds => exact fun p vs F' H' e h0 hf hp ra => h (.ref p) (upd F' p (.dK vs)) H' (e.froz h0 hp hf) (.dct (.inl upd_same) (ra.up (same_new hf)))
  | exc x => exact h
  | bad => exact h
end

/-! ### a def's slots -/
/-- a field of a thing -/
inductive Fl where
  | fz (d : D) | ol (ds : List D) | od (es : List (Int × D))
/-- un: unknown; fz: known to all; ol, od: of one's own; pl, pd: a param that the def may change; og: groups; ob: a thing (of which class; a param); xn: the exception that a suite holds; hd: a param's thing, hidden -/
inductive Sl where
  | un | fz (d : D) | ol (ds : List D) | od (es : List (Int × D)) | pl (j : Nat) (ds : List D) | pd (j : Nat) (es : List (Int × D)) | og (b : Bool) (gs : List (Int × List Int)) | ob (j : Option Nat) (c : Nat) (fs : List (Str × Fl)) | xn (e : Exn) | hd (j : Nat)
def Sl.own : Sl → Bool
  | .ol _ => true
  | .od _ => true
  | .pl _ _ => true
  | .pd _ _ => true
  | .og _ _ => true
  | .ob _ _ _ => true
  | _ => false
/-- known to all, or unknown -/
def Sl.pln : Sl → Bool
  | .un => true
  | .fz _ => true
  | _ => false
/-- what may be one's own -/
def ownable : HO → Bool
  | .lst _ => true
  | .dK _ => true
  | .ins _ _ _ => true
  | _ => false
theorem own_tup {o : HO} (h : ownable o = true) : notTup o = true := by cases o <;> first | rfl | cases h
def FlR (K : PySem.W.Frag) (F H : Hp) (O : Addr → Prop) (v : V) : Fl → Prop
  | .fz d => Rp K F v d
  | .ol ds => ∃ q vs, v = .ref q ∧ O q ∧ H q = some (.lst vs) ∧ RpA K F vs ds
  | .od es => ∃ q vs, v = .ref q ∧ O q ∧ H q = some (.dK vs) ∧ RpK K F vs es
inductive FlsR (K : PySem.W.Frag) (F H : Hp) (O : Addr → Nat → Prop) : Nat → List (Str × V) → List (Str × Fl) → Prop
  | nil {n : Nat} : FlsR K F H O n [] []
  | cons {n : Nat} {f : Str} {v : V} {l : Fl} {vs : List (Str × V)} {fs : List (Str × Fl)} : FlR K F H (fun a => O a n) v l → FlsR K F H O (n + 1) vs fs → FlsR K F H O n ((f, v) :: vs) ((f, l) :: fs)
/-- a group: a pair (a tuple; a list), the second a list of one's own -/
inductive GsR (H : Hp) (O : Addr → Nat → Prop) (b : Bool) : Nat → List V → List (Int × List Int) → Prop
  | nil {n : Nat} : GsR H O b n [] []
  | cons {n : Nat} {t q : Addr} {k : Int} {hs : List Int} {ts : List V} {gs : List (Int × List Int)} : (H t = some (if b then .lst [.int k, .ref q] else .tup [.int k, .ref q])) → (b = true → O t n) → O q (n + 1) → H q = some (.lst (hs.map V.int)) → GsR H O b (n + 2) ts gs → GsR H O b n (.ref t :: ts) ((k, hs) :: gs)
def SlR (C : CL) (K : PySem.W.Frag) (F H : Hp) (O : Addr → Nat → Prop) (v : Option V) (s : Sl) : Prop := match s with
  | .un => True
  | .fz d => ∃ u, v = some u ∧ Rp K F u d
  | .ol ds => ∃ p vs, v = some (.ref p) ∧ O p 0 ∧ H p = some (.lst vs) ∧ RpA K F vs ds
  | .od es => ∃ p vs, v = some (.ref p) ∧ O p 0 ∧ H p = some (.dK vs) ∧ RpK K F vs es
  | .pl j ds => v = C.par j ∧ ∃ p vs, v = some (.ref p) ∧ O p 0 ∧ H p = some (.lst vs) ∧ RpA K F vs ds
  | .pd j es => v = C.par j ∧ ∃ p vs, v = some (.ref p) ∧ O p 0 ∧ H p = some (.dK vs) ∧ RpK K F vs es
  | .og b gs => ∃ p ts, v = some (.ref p) ∧ O p 0 ∧ H p = some (.lst ts) ∧ GsR H O b 1 ts gs
  | .ob j c fs => (∀ k, j = some k → v = C.par k) ∧ ∃ p dx vs, v = some (.ref p) ∧ O p 0 ∧ H p = some (.ins (C.cl c) dx vs) ∧ FlsR K F H O 1 vs fs
  | .xn e => v = some (.ref C.exa) ∧ ExcIs C H C.excls C.exd e
  | .hd j => v = C.par j
/-- of lists and dicts of one's own, without their owner -/
def SlV (K : PySem.W.Frag) (F H : Hp) (v : Option V) (s : Sl) : Prop := match s with
  | .un => True
  | .fz d => ∃ u, v = some u ∧ Rp K F u d
  | .ol ds => ∃ p vs, v = some (.ref p) ∧ F p = none ∧ H p = some (.lst vs) ∧ RpA K F vs ds
  | .od es => ∃ p vs, v = some (.ref p) ∧ F p = none ∧ H p = some (.dK vs) ∧ RpK K F vs es
  | .pl _ ds => ∃ p vs, v = some (.ref p) ∧ F p = none ∧ H p = some (.lst vs) ∧ RpA K F vs ds
  | .pd _ es => ∃ p vs, v = some (.ref p) ∧ F p = none ∧ H p = some (.dK vs) ∧ RpK K F vs es
  | _ => True
structure Ok (C : CL) (K : PySem.W.Frag) (F0 H0 F H : Hp) (σ : St) (S : List Sl) : Prop where
  sub : Same F H
  f0 : Same F0 F
  h0 : Same H0 H
  old : ∀ a o, H0 a = some o → notTup o = true → F a = F0 a
  len : σ.length = S.length
  ow : ∃ ow : Addr → Option (Nat × Nat), (∀ a x, ow a = some x → H0 a = none ∧ F a = none ∧ ∃ u, H a = some u ∧ ownable u = true) ∧ ∀ (i : Nat) (s : Sl) (v : Option V), S[i]? = some s → σ[i]? = some v → SlR C K F H (fun a n => ow a = some (i, n)) v s
section
variable {C : CL} {K : PySem.W.Frag} {F0 H0 F H F1 H1 F' H' : Hp} {σ : St} {S : List Sl} {O O' : Addr → Nat → Prop}
/-- what was known is known -/
structure Up (K : PySem.W.Frag) (F F' : Hp) : Prop where
  one : ∀ v d, Rp K F v d → Rp K F' v d
  all : ∀ vs ds, RpA K F vs ds → RpA K F' vs ds
  key : ∀ vs ds, RpK K F vs ds → RpK K F' vs ds
theorem Same.upR (e : Same F F') : Up K F F' := ⟨fun _ _ h => h.up e, fun _ _ h => h.up e, fun _ _ h => h.up e⟩
theorem FlR.frame {P P' : Addr → Prop} (hF : Up K F F') (hH : ∀ a, P a → H' a = H a) (hO : ∀ a, P a → P' a) {v : V} {l : Fl} (h : FlR K F H P v l) : FlR K F' H' P' v l := by
  cases l with
  | fz d => exact hF.one _ _ h
  | ol ds => obtain ⟨q, vs, h1, h2, h3, h4⟩ := h; exact ⟨q, vs, h1, hO q h2, (hH q h2).trans h3, hF.all _ _ h4⟩
  | od ds => obtain ⟨q, vs, h1, h2, h3, h4⟩ := h; exact ⟨q, vs, h1, hO q h2, (hH q h2).trans h3, hF.key _ _ h4⟩
theorem FlsR.frame (hF : Up K F F') (hH : ∀ a n, O a n → H' a = H a) (hO : ∀ a n, O a n → O' a n) {n : Nat} {vs : List (Str × V)} {fs : List (Str × Fl)} (h : FlsR K F H O n vs fs) : FlsR K F' H' O' n vs fs := by
  induction h with
  | nil => exact .nil
  | cons h1 _ ih => exact .cons (h1.frame hF (fun a ha => hH a _ ha) (fun a ha => hO a _ ha)) ih
/-- what may change: nothing that is one's own; tuples and errors stay -/
def Keep (H H' : Hp) : Prop := ∀ a o, H a = some o → ownable o = false → H' a = some o
theorem GsR.frame (hH : ∀ a n, O a n → H' a = H a) (hK : Keep H H') (hO : ∀ a n, O a n → O' a n) {b : Bool} {n : Nat} {ts : List V} {gs : List (Int × List Int)} (h : GsR H O b n ts gs) : GsR H' O' b n ts gs := by
  induction h with
  | nil => exact .nil
  | @cons n t q k hs ts gs h1 h2 h3 h4 _ ih =>
    refine .cons ?_ (fun e => hO _ _ (h2 e)) (hO _ _ h3) ((hH _ _ h3).trans h4) ih
    cases b with
    | true => exact (hH t n (h2 rfl)).trans h1
    | false => exact hK t _ h1 rfl
theorem ExcIs.keep (hK : Keep H H') {cls : Value} {d : Option Addr} {e : Exn} (h : ExcIs C H cls d e) : ExcIs C H' cls d e := by
  cases e with
  | noFormula x => obtain ⟨h1, dd, h2, h3⟩ := h; exact ⟨h1, dd, h2, hK _ _ h3 rfl⟩
  | notRight x => obtain ⟨h1, dd, h2, h3⟩ := h; exact ⟨h1, dd, h2, hK _ _ h3 rfl⟩
  | _ => exact h
theorem SlR.frame (hF : Up K F F') (hH : ∀ a n, O a n → H' a = H a) (hK : Keep H H') (hO : ∀ a n, O a n → O' a n) {v : Option V} {s : Sl} (h : SlR C K F H O v s) : SlR C K F' H' O' v s := by
  cases s with
  | un => trivial
  | fz d => obtain ⟨u, h1, h2⟩ := h; exact ⟨u, h1, hF.one _ _ h2⟩
  | ol ds => obtain ⟨p, vs, h1, h2, h3, h4⟩ := h; exact ⟨p, vs, h1, hO _ _ h2, (hH _ _ h2).trans h3, hF.all _ _ h4⟩
  | od ds => obtain ⟨p, vs, h1, h2, h3, h4⟩ := h; exact ⟨p, vs, h1, hO _ _ h2, (hH _ _ h2).trans h3, hF.key _ _ h4⟩
  | pl j ds => obtain ⟨h0, p, vs, h1, h2, h3, h4⟩ := h; exact ⟨h0, p, vs, h1, hO _ _ h2, (hH _ _ h2).trans h3, hF.all _ _ h4⟩
  | pd j ds => obtain ⟨h0, p, vs, h1, h2, h3, h4⟩ := h; exact ⟨h0, p, vs, h1, hO _ _ h2, (hH _ _ h2).trans h3, hF.key _ _ h4⟩
  | og b gs => obtain ⟨p, ts, h1, h2, h3, h4⟩ := h; exact ⟨p, ts, h1, hO _ _ h2, (hH _ _ h2).trans h3, h4.frame hH hK hO⟩
  | ob j c fs => obtain ⟨h0, p, dx, vs, h1, h2, h3, h4⟩ := h; exact ⟨h0, p, dx, vs, h1, hO _ _ h2, (hH _ _ h2).trans h3, h4.frame hF hH hO⟩
  | xn e => exact ⟨h.1, h.2.keep hK⟩
  | hd j => exact h
theorem Same.keep (h : Same H H') : Keep H H' := fun a o e _ => h a o e
theorem keep_upd {p : Addr} {u w : HO} (hp : H p = some w) (hw : ownable w = true) : Keep H (upd H p u) := fun a o e n => by
  have na : a ≠ p := fun z => by rw [z, hp] at e; cases e; rw [hw] at n; cases n
  rw [upd_ne na]; exact e
theorem SlR.v {v : Option V} {s : Sl} (hO : ∀ a n, O a n → F a = none) (h : SlR C K F H O v s) : SlV K F H v s := by
  cases s with
  | un => trivial
  | fz d => exact h
  | ol ds => obtain ⟨p, vs, h1, h2, h3, h4⟩ := h; exact ⟨p, vs, h1, hO _ _ h2, h3, h4⟩
  | od ds => obtain ⟨p, vs, h1, h2, h3, h4⟩ := h; exact ⟨p, vs, h1, hO _ _ h2, h3, h4⟩
  | pl j ds => obtain ⟨h0, p, vs, h1, h2, h3, h4⟩ := h; exact ⟨p, vs, h1, hO _ _ h2, h3, h4⟩
  | pd j ds => obtain ⟨h0, p, vs, h1, h2, h3, h4⟩ := h; exact ⟨p, vs, h1, hO _ _ h2, h3, h4⟩
  | og b gs => trivial
  | ob j c fs => trivial
  | xn e => trivial
  | hd j => trivial
theorem Ok.ext (o : Ok C K F0 H0 F H σ S) : Ext F0 H0 F H := ⟨o.f0, o.sub, o.h0, o.old⟩
theorem Ok.up (o : Ok C K F0 H0 F H σ S) (e : Ext F H F1 H1) : Ok C K F0 H0 F1 H1 σ S where
  sub := e.fh
  f0 := o.f0.trans e.ff
  h0 := o.h0.trans e.hh
  old := (o.ext.trans e).old
  len := o.len
  ow := by
    obtain ⟨ow, w1, w2⟩ := o.ow
    refine ⟨ow, fun a x h => ?_, fun i s v h1 h2 => (w2 i s v h1 h2).frame (Same.upR e.ff) (fun a n h => ?_) (Same.keep e.hh) fun _ _ h => h⟩
    · obtain ⟨z1, z2, u, z3, z4⟩ := w1 a x h
      exact ⟨z1, (e.old a u z3 (own_tup z4)).trans z2, u, e.hh _ _ z3, z4⟩
    · obtain ⟨z1, z2, u, z3, z4⟩ := w1 a _ h
      rw [z3, e.hh _ _ z3]
theorem Ok.at {i : Nat} {s : Sl} (o : Ok C K F0 H0 F H σ S) (h : S[i]? = some s) : ∃ v, σ[i]? = some v ∧ SlV K F H v s := by
  have hi : i < σ.length := by rw [o.len]; exact (List.getElem?_eq_some_iff.mp h).1
  obtain ⟨ow, w1, w2⟩ := o.ow
  exact ⟨σ[i], List.getElem?_eq_getElem hi, (w2 i s _ h (List.getElem?_eq_getElem hi)).v fun a n z => (w1 a _ z).2.1⟩
theorem SlR.plain {v : Option V} {s : Sl} (hs : s.pln = true) (h : SlV K F H v s) : SlR C K F H O v s := by
  cases s with
  | un => trivial
  | fz d => exact h
  | _ => cases hs
/-- a slot is stored: known to all, or unknown -/
theorem Ok.set {i : Nat} {v : Option V} {s : Sl} (o : Ok C K F0 H0 F H σ S) (hs : s.pln = true) (h : SlV K F H v s) : Ok C K F0 H0 F H (σ.set i v) (S.set i s) where
  sub := o.sub
  f0 := o.f0
  h0 := o.h0
  old := o.old
  len := by simp [o.len]
  ow := by
    obtain ⟨ow, w1, w2⟩ := o.ow
    refine ⟨ow, w1, fun j t w h1 h2 => ?_⟩
    by_cases e : i = j
    · subst e
      have hi : i < S.length := by have := (List.getElem?_eq_some_iff.mp h1).1; simpa using this
      have hi' : i < σ.length := by rw [o.len]; exact hi
      rw [List.getElem?_set_self hi] at h1
      rw [List.getElem?_set_self hi'] at h2
      cases h1; cases h2; exact SlR.plain hs h
    · rw [List.getElem?_set_ne e] at h1 h2
      exact w2 j t w h1 h2
/-- a slot is stored: a new list or dict of one's own -/
theorem Ok.setO {i : Nat} {p : Addr} {s : Sl} (o : Ok C K F0 H0 F H σ S) (e : Ext F H F1 H1) (hp : H p = none) (hf : F1 p = none) (hs : (∃ ds, s = .ol ds) ∨ ∃ es, s = .od es) (h : SlV K F1 H1 (some (.ref p)) s) : Ok C K F0 H0 F1 H1 (σ.set i (some (.ref p))) (S.set i s) := by
  have o1 := o.up e
  refine ⟨o1.sub, o1.f0, o1.h0, o1.old, by simp [o.len], ?_⟩
  obtain ⟨ow, w1, w2⟩ := o.ow
  have np : ow p = none := by
    cases z : ow p with
    | none => rfl
    | some x => obtain ⟨_, _, u, hu, _⟩ := w1 p x z; rw [hp] at hu; cases hu
  refine ⟨fun a => if a = p then some (i, 0) else ow a, fun a x hx => ?_, fun j t w h1 h2 => ?_⟩
  · by_cases c : a = p
    · subst c
      refine ⟨o.h0.free hp, hf, ?_⟩
      rcases hs with ⟨ds, rfl⟩ | ⟨es, rfl⟩
      · obtain ⟨q, vs, z1, z2, z3, z4⟩ := h; cases z1; exact ⟨_, z3, rfl⟩
      · obtain ⟨q, vs, z1, z2, z3, z4⟩ := h; cases z1; exact ⟨_, z3, rfl⟩
    · have hx : (if a = p then some (i, 0) else ow a) = some x := hx
      rw [if_neg c] at hx
      obtain ⟨z1, z2, u, z3, z4⟩ := w1 a x hx
      exact ⟨z1, (e.old a u z3 (own_tup z4)).trans z2, u, e.hh _ _ z3, z4⟩
  · by_cases c : i = j
    · subst c
      have hi : i < S.length := by have := (List.getElem?_eq_some_iff.mp h1).1; simpa using this
      have hi' : i < σ.length := by rw [o.len]; exact hi
      rw [List.getElem?_set_self hi] at h1
      rw [List.getElem?_set_self hi'] at h2
      cases h1; cases h2
      rcases hs with ⟨ds, rfl⟩ | ⟨es, rfl⟩
      · obtain ⟨q, vs, z1, z2, z3, z4⟩ := h; cases z1; exact ⟨p, vs, rfl, if_pos rfl, z3, z4⟩
      · obtain ⟨q, vs, z1, z2, z3, z4⟩ := h; cases z1; exact ⟨p, vs, rfl, if_pos rfl, z3, z4⟩
    · rw [List.getElem?_set_ne c] at h1 h2
      refine (w2 j t w h1 h2).frame (Same.upR e.ff) (fun a n h => ?_) (Same.keep e.hh) fun a n h => ?_
      · obtain ⟨z1, z2, u, z3, z4⟩ := w1 a _ h
        rw [z3, e.hh _ _ z3]
      · show (if a = p then some (i, 0) else ow a) = some (j, n)
        rw [if_neg (fun z => by rw [z, np] at h; cases h)]; exact h
/-- one's own object is written; new ones (N) may become one's own -/
theorem Ok.chg {i : Nat} {s t : Sl} {v : Option V} (N : Addr → Option Nat) (o : Ok C K F0 H0 F H σ S) (e : Ext F H F1 H1) (hN : ∀ a n, N a = some n → H a = none ∧ F1 a = none ∧ ∃ u, H1 a = some u ∧ ownable u = true) (hs : S[i]? = some s) (hv : σ[i]? = some v)
    (k : ∀ O : Addr → Nat → Prop, (∀ a n, O a n → F1 a = none ∧ N a = none ∧ ∃ u, H1 a = some u ∧ ownable u = true) → SlR C K F1 H1 O v s → ∃ (p : Addr) (n : Nat) (u : HO), O p n ∧ ownable u = true ∧ H' = upd H1 p u ∧ SlR C K F1 (upd H1 p u) (fun a m => O a m ∨ N a = some m) v t) : Ok C K F0 H0 F1 H' σ (S.set i t) := by
  have o1 := o.up e
  obtain ⟨ow, w1, w2⟩ := o.ow
  have hn : ∀ a x, ow a = some x → N a = none := fun a x h => by
    cases z : N a with
    | none => rfl
    | some n => obtain ⟨_, _, u, hu, _⟩ := w1 a x h; rw [(hN a n z).1] at hu; cases hu
  have w1' : ∀ a x, ow a = some x → F1 a = none ∧ N a = none ∧ ∃ u, H1 a = some u ∧ ownable u = true := fun a x h => by
    obtain ⟨z1, z2, u, z3, z4⟩ := w1 a x h
    exact ⟨(e.old a u z3 (own_tup z4)).trans z2, hn a x h, u, e.hh _ _ z3, z4⟩
  have hs' : SlR C K F1 H1 (fun a n => ow a = some (i, n)) v s := (w2 i s v hs hv).frame (Same.upR e.ff) (fun a n h => by
    obtain ⟨z1, z2, u, z3, z4⟩ := w1 a _ h
    rw [z3, e.hh _ _ z3]) (Same.keep e.hh) fun _ _ h => h
  obtain ⟨p, n, u, hp, hu, rfl, ht⟩ := k _ (fun a n h => w1' a _ h) hs'
  obtain ⟨fp, _, w, hw, hw2⟩ := w1' p _ hp
  refine ⟨fun a x ha => ?_, o1.f0, fun a x ha => ?_, o1.old, by simp [o.len], ?_⟩
  · have na : a ≠ p := fun z => by rw [z, fp] at ha; cases ha
    rw [upd_ne na]; exact o1.sub _ _ ha
  · have na : a ≠ p := fun z => by rw [z, (w1 p _ hp).1] at ha; cases ha
    rw [upd_ne na]; exact o1.h0 _ _ ha
  · refine ⟨fun a => match N a with | some m => some (i, m) | none => ow a, fun a x ha => ?_, fun j r w' h1 h2 => ?_⟩
    · have main : H0 a = none ∧ F1 a = none ∧ ∃ u, H1 a = some u ∧ ownable u = true := by
        cases z : N a with
        | some m => obtain ⟨z1, z2, z3⟩ := hN a m z; exact ⟨o.h0.free z1, z2, z3⟩
        | none =>
          simp only [z] at ha
          exact ⟨(w1 a x ha).1, (w1' a x ha).1, (w1' a x ha).2.2⟩
      refine ⟨main.1, main.2.1, ?_⟩
      by_cases c : a = p
      · subst c; exact ⟨u, upd_same, hu⟩
      · rw [upd_ne c]; exact main.2.2
    · by_cases c : i = j
      · subst c
        have hi : i < S.length := by have := (List.getElem?_eq_some_iff.mp h1).1; simpa using this
        rw [List.getElem?_set_self hi] at h1
        cases h1
        rw [hv] at h2
        cases h2
        refine ht.frame (Same.upR (Same.refl _)) (fun _ _ _ => rfl) (fun _ _ h _ => h) fun a m h => ?_
        rcases h with h | h
        · simp only [hn a _ h]; exact h
        · simp only [h]
      · rw [List.getElem?_set_ne c] at h1
        refine (w2 j r w' h1 h2).frame (Same.upR e.ff) (fun a m h => ?_) (fun a x h n => ?_) fun a m h => ?_
        · have na : a ≠ p := fun z => by rw [z, hp] at h; cases h; exact c rfl
          obtain ⟨z1, z2, u, z3, z4⟩ := w1 a _ h
          rw [upd_ne na, z3, e.hh _ _ z3]
        · exact keep_upd hw hw2 a x (e.hh _ _ h) n
        · simp only [hn a _ h]; exact h
/-- one's own objects are known to all from now on -/
theorem Ok.frz {i : Nat} {s t : Sl} {v : Option V} (o : Ok C K F0 H0 F H σ S) (hs : S[i]? = some s) (hv : σ[i]? = some v)
    (k : ∀ O : Addr → Nat → Prop, (∀ a n, O a n → F a = none ∧ ∃ u, H a = some u ∧ ownable u = true) → SlR C K F H O v s → ∃ F', Same F F' ∧ Same F' H ∧ (∀ a u, F' a = some u → F a = none → notTup u = true → ∃ n, O a n) ∧ SlR C K F' H (fun a n => O a n ∧ F' a = none) v t) : ∃ F', Same F F' ∧ Ok C K F0 H0 F' H σ (S.set i t) := by
  obtain ⟨ow, w1, w2⟩ := o.ow
  obtain ⟨F', hF, hsub, k1, k2⟩ := k _ (fun a n h => ⟨(w1 a _ h).2.1, (w1 a _ h).2.2⟩) (w2 i s v hs hv)
  refine ⟨F', hF, ?_⟩
  have key : ∀ a x, ow a = some x → x.1 ≠ i → F' a = none := fun a x h ne => by
    cases z : F' a with
    | none => rfl
    | some u =>
      exfalso
      obtain ⟨z1, z2, w, z3, z4⟩ := w1 a x h
      have := hsub a u z
      rw [z3] at this
      cases this
      obtain ⟨n, hn⟩ := k1 a _ z z2 (own_tup z4)
      rw [h] at hn
      cases hn
      exact ne rfl
  refine ⟨hsub, o.f0.trans hF, o.h0, fun a x h n => ?_, by simp [o.len], ?_⟩
  · rw [← o.old a x h n]
    cases z : F a with
    | some u => exact hF a u z
    | none =>
      cases z2 : F' a with
      | none => rfl
      | some u =>
        exfalso
        have e1 := hsub a u z2
        rw [o.h0 a x h] at e1
        cases e1
        obtain ⟨n2, hn2⟩ := k1 a x z2 z n
        have := (w1 a _ hn2).1
        rw [h] at this; cases this
  · refine ⟨fun a => match F' a with | some _ => none | none => ow a, fun a x ha => ?_, fun j r w h1 h2 => ?_⟩
    · cases z : F' a with
      | some u => simp only [z] at ha; cases ha
      | none => simp only [z] at ha; obtain ⟨z1, z2, z3⟩ := w1 a x ha; exact ⟨z1, rfl, z3⟩
    · by_cases c : i = j
      · subst c
        have hi : i < S.length := by have := (List.getElem?_eq_some_iff.mp h1).1; simpa using this
        rw [List.getElem?_set_self hi] at h1
        cases h1
        rw [hv] at h2
        cases h2
        refine k2.frame (Same.upR (Same.refl _)) (fun _ _ _ => rfl) (fun _ _ h _ => h) fun a m h => ?_
        simp only [h.2]; exact h.1
      · rw [List.getElem?_set_ne c] at h1
        refine (w2 j r w h1 h2).frame (Same.upR hF) (fun _ _ _ => rfl) (fun _ _ h _ => h) fun a m h => ?_
        simp only [key a _ h (fun z => c z.symm)]; exact h
theorem Ok.ownNone {i : Nat} {s : Sl} {p : Addr} (o : Ok C K F0 H0 F H σ S) (h : S[i]? = some s) (hs : s.own = true) (hp : σ[i]? = some (some (.ref p))) : F p = none ∧ H0 p = none ∧ ∃ u, H p = some u ∧ ownable u = true := by
  obtain ⟨ow, w1, w2⟩ := o.ow
  have q := w2 i s _ h hp
  have key : ∀ x, ow p = some x → F p = none ∧ H0 p = none ∧ ∃ u, H p = some u ∧ ownable u = true := fun x hx => by obtain ⟨z1, z2, z3⟩ := w1 p x hx; exact ⟨z2, z1, z3⟩
  cases s with
  | ol ds => obtain ⟨a, vs, h1, h2, h3⟩ := q; cases h1; exact key _ h2
  | od ds => obtain ⟨a, vs, h1, h2, h3⟩ := q; cases h1; exact key _ h2
  | pl j ds => obtain ⟨h0, a, vs, h1, h2, h3⟩ := q; cases h1; exact key _ h2
  | pd j ds => obtain ⟨h0, a, vs, h1, h2, h3⟩ := q; cases h1; exact key _ h2
  | og j ds => obtain ⟨a, vs, h1, h2, h3⟩ := q; cases h1; exact key _ h2
  | ob j c ds => obtain ⟨h0, a, dx, vs, h1, h2, h3⟩ := q; cases h1; exact key _ h2
  | _ => cases hs
/-- a list or dict of one's own is written -/
theorem Ok.write {i : Nat} {s t : Sl} {p : Addr} {u : HO} (o : Ok C K F0 H0 F H σ S) (h : S[i]? = some s) (hp : σ[i]? = some (some (.ref p))) (hst : (∃ ds, s = .ol ds) ∨ (∃ ds, s = .od ds) ∨ (∃ j ds, s = .pl j ds) ∨ ∃ j ds, s = .pd j ds) (hu : ownable u = true)
    (hn : ∀ O : Addr → Nat → Prop, O p 0 → SlR C K F H O (some (.ref p)) s → SlR C K F (upd H p u) O (some (.ref p)) t) : Ok C K F0 H0 F (upd H p u) σ (S.set i t) := by
  refine o.chg (fun _ => none) (Ext.refl o.sub) (fun _ _ h => nomatch h) h hp fun O hO q => ?_
  have key : O p 0 := by
    rcases hst with ⟨ds, rfl⟩ | ⟨ds, rfl⟩ | ⟨j, ds, rfl⟩ | ⟨j, ds, rfl⟩
    · obtain ⟨a, vs, h1, h2, h3⟩ := q; cases h1; exact h2
    · obtain ⟨a, vs, h1, h2, h3⟩ := q; cases h1; exact h2
    · obtain ⟨h0, a, vs, h1, h2, h3⟩ := q; cases h1; exact h2
    · obtain ⟨h0, a, vs, h1, h2, h3⟩ := q; cases h1; exact h2
  exact ⟨p, 0, u, key, hu, rfl, (hn O key q).frame (Same.upR (Same.refl _)) (fun _ _ _ => rfl) (fun _ _ h _ => h) fun _ _ h => .inl h⟩
end

/-! ### judgements: a canonical reading each -/
section
variable (C : CL) (K : PySem.W.Frag) (W : WX)
def cE (m : List Sl → R D) : TE := fun σ H Q => ∃ F0 H0 F S, Ok C K F0 H0 F H σ S ∧ Post C K W σ F H (m S) Q
def cR (m : List Sl → R D) : TE := fun σ H Q => ∃ F0 H0 F S, Ok C K F0 H0 F H σ S ∧ PostV C K W σ F H (m S) Q
def cN (m : List Sl → R (List D)) : TE := fun σ H Q => ∃ F0 H0 F S, Ok C K F0 H0 F H σ S ∧ PostN C K W σ F H (m S) Q
def cND (m : List Sl → R (List (Int × D))) : TE := fun σ H Q => ∃ F0 H0 F S, Ok C K F0 H0 F H σ S ∧ PostND C K W σ F H (m S) Q
def cT (m : List Sl → R Bool) : TT := fun σ H Q => ∃ F0 H0 F S, Ok C K F0 H0 F H σ S ∧ PostT C K W σ F H (m S) Q
def cA (m : List Sl → R (List D)) : TA := fun σ H Q => ∃ F0 H0 F S, Ok C K F0 H0 F H σ S ∧ PostA C K W σ F H (m S) Q
def cAR (m : List Sl → R (List D)) : TA := fun σ H Q => ∃ F0 H0 F S, Ok C K F0 H0 F H σ S ∧ PostAR C K W σ F H (m S) Q
end
structure DE (C : CL) (X : Cx) (W : WX) (e : Expr) (m : List Sl → R D) : Prop where
  run : PE X e (cE C X.K W m)
/-- read at once -/
structure DR (C : CL) (X : Cx) (W : WX) (e : Expr) (m : List Sl → R D) : Prop where
  run : PE X e (cR C X.K W m)
structure DN (C : CL) (X : Cx) (W : WX) (e : Expr) (m : List Sl → R (List D)) : Prop where
  run : PE X e (cN C X.K W m)
structure DND (C : CL) (X : Cx) (W : WX) (e : Expr) (m : List Sl → R (List (Int × D))) : Prop where
  run : PE X e (cND C X.K W m)
structure DT (C : CL) (X : Cx) (W : WX) (e : Expr) (m : List Sl → R Bool) : Prop where
  run : PT X e (cT C X.K W m)
structure DW (C : CL) (X : Cx) (W : WX) (e : Expr) (m : List Sl → R Bool) : Prop where
  run : PW X e (cT C X.K W m)
structure DC (C : CL) (X : Cx) (W : WX) (op : CmpOp) (a b : Expr) (m : List Sl → R D) : Prop where
  run : PC X op a b (cE C X.K W m)
/-- arguments: read at once; known to all -/
structure DA (C : CL) (X : Cx) (W : WX) (es : List Expr) (m : List Sl → R (List D)) : Prop where
  run : PA X es (cA C X.K W m)
structure DAR (C : CL) (X : Cx) (W : WX) (es : List Expr) (m : List Sl → R (List D)) : Prop where
  run : PA X es (cAR C X.K W m)
section
variable {C : CL} {X : Cx} {W : WX} {e : Expr} {op : CmpOp} {a b : Expr} {pos : Pos} {es : List Expr}
theorem DE.of {m : List Sl → R D} (h : ∃ t, PE X e t ∧ ∀ F0 H0 F H σ S, Ok C X.K F0 H0 F H σ S → ∀ Q, Post C X.K W σ F H (m S) Q → t σ H Q) : DE C X W e m := by
  obtain ⟨t, p, k⟩ := h
  exact ⟨⟨fun pins s σ H Q I ⟨F0, H0, F, S, o, q⟩ => p.run pins s σ H Q I (k F0 H0 F H σ S o Q q)⟩⟩
theorem DE.ex {m : List Sl → R D} (h : DE C X W e m) : ∃ t, PE X e t ∧ ∀ F0 H0 F H σ S, Ok C X.K F0 H0 F H σ S → ∀ Q, Post C X.K W σ F H (m S) Q → t σ H Q :=
  ⟨_, h.run, fun F0 H0 F H σ S o Q q => ⟨F0, H0, F, S, o, q⟩⟩
theorem DR.of {m : List Sl → R D} (h : ∃ t, PE X e t ∧ ∀ F0 H0 F H σ S, Ok C X.K F0 H0 F H σ S → ∀ Q, PostV C X.K W σ F H (m S) Q → t σ H Q) : DR C X W e m := by
  obtain ⟨t, p, k⟩ := h
  exact ⟨⟨fun pins s σ H Q I ⟨F0, H0, F, S, o, q⟩ => p.run pins s σ H Q I (k F0 H0 F H σ S o Q q)⟩⟩
theorem DR.ex {m : List Sl → R D} (h : DR C X W e m) : ∃ t, PE X e t ∧ ∀ F0 H0 F H σ S, Ok C X.K F0 H0 F H σ S → ∀ Q, PostV C X.K W σ F H (m S) Q → t σ H Q :=
  ⟨_, h.run, fun F0 H0 F H σ S o Q q => ⟨F0, H0, F, S, o, q⟩⟩
theorem DN.of {m : List Sl → R (List D)} (h : ∃ t, PE X e t ∧ ∀ F0 H0 F H σ S, Ok C X.K F0 H0 F H σ S → ∀ Q, PostN C X.K W σ F H (m S) Q → t σ H Q) : DN C X W e m := by
  obtain ⟨t, p, k⟩ := h
  exact ⟨⟨fun pins s σ H Q I ⟨F0, H0, F, S, o, q⟩ => p.run pins s σ H Q I (k F0 H0 F H σ S o Q q)⟩⟩
theorem DN.ex {m : List Sl → R (List D)} (h : DN C X W e m) : ∃ t, PE X e t ∧ ∀ F0 H0 F H σ S, Ok C X.K F0 H0 F H σ S → ∀ Q, PostN C X.K W σ F H (m S) Q → t σ H Q :=
  ⟨_, h.run, fun F0 H0 F H σ S o Q q => ⟨F0, H0, F, S, o, q⟩⟩
theorem DND.of {m : List Sl → R (List (Int × D))} (h : ∃ t, PE X e t ∧ ∀ F0 H0 F H σ S, Ok C X.K F0 H0 F H σ S → ∀ Q, PostND C X.K W σ F H (m S) Q → t σ H Q) : DND C X W e m := by
  obtain ⟨t, p, k⟩ := h
  exact ⟨⟨fun pins s σ H Q I ⟨F0, H0, F, S, o, q⟩ => p.run pins s σ H Q I (k F0 H0 F H σ S o Q q)⟩⟩
theorem DND.ex {m : List Sl → R (List (Int × D))} (h : DND C X W e m) : ∃ t, PE X e t ∧ ∀ F0 H0 F H σ S, Ok C X.K F0 H0 F H σ S → ∀ Q, PostND C X.K W σ F H (m S) Q → t σ H Q :=
  ⟨_, h.run, fun F0 H0 F H σ S o Q q => ⟨F0, H0, F, S, o, q⟩⟩
theorem DT.of {m : List Sl → R Bool} (h : ∃ t, PT X e t ∧ ∀ F0 H0 F H σ S, Ok C X.K F0 H0 F H σ S → ∀ Q, PostT C X.K W σ F H (m S) Q → t σ H Q) : DT C X W e m := by
  obtain ⟨t, p, k⟩ := h
  exact ⟨⟨fun pins s σ H Q I ⟨F0, H0, F, S, o, q⟩ => p.run pins s σ H Q I (k F0 H0 F H σ S o Q q)⟩⟩
theorem DT.ex {m : List Sl → R Bool} (h : DT C X W e m) : ∃ t, PT X e t ∧ ∀ F0 H0 F H σ S, Ok C X.K F0 H0 F H σ S → ∀ Q, PostT C X.K W σ F H (m S) Q → t σ H Q :=
  ⟨_, h.run, fun F0 H0 F H σ S o Q q => ⟨F0, H0, F, S, o, q⟩⟩
theorem DW.of {m : List Sl → R Bool} (h : ∃ t, PW X e t ∧ ∀ F0 H0 F H σ S, Ok C X.K F0 H0 F H σ S → ∀ Q, PostT C X.K W σ F H (m S) Q → t σ H Q) : DW C X W e m := by
  obtain ⟨t, p, k⟩ := h
  exact ⟨⟨fun wh pins s σ H Q I ⟨F0, H0, F, S, o, q⟩ => p.run wh pins s σ H Q I (k F0 H0 F H σ S o Q q)⟩⟩
theorem DW.ex {m : List Sl → R Bool} (h : DW C X W e m) : ∃ t, PW X e t ∧ ∀ F0 H0 F H σ S, Ok C X.K F0 H0 F H σ S → ∀ Q, PostT C X.K W σ F H (m S) Q → t σ H Q :=
  ⟨_, h.run, fun F0 H0 F H σ S o Q q => ⟨F0, H0, F, S, o, q⟩⟩
theorem DC.of {m : List Sl → R D} (h : ∃ t, PC X op a b t ∧ ∀ F0 H0 F H σ S, Ok C X.K F0 H0 F H σ S → ∀ Q, Post C X.K W σ F H (m S) Q → t σ H Q) : DC C X W op a b m := by
  obtain ⟨t, p, k⟩ := h
  exact ⟨⟨fun pins s σ H Q I ⟨F0, H0, F, S, o, q⟩ => p.run pins s σ H Q I (k F0 H0 F H σ S o Q q)⟩⟩
theorem DC.ex {m : List Sl → R D} (h : DC C X W op a b m) : ∃ t, PC X op a b t ∧ ∀ F0 H0 F H σ S, Ok C X.K F0 H0 F H σ S → ∀ Q, Post C X.K W σ F H (m S) Q → t σ H Q :=
  ⟨_, h.run, fun F0 H0 F H σ S o Q q => ⟨F0, H0, F, S, o, q⟩⟩
theorem DA.of {m : List Sl → R (List D)} (h : ∃ t, PA X es t ∧ ∀ F0 H0 F H σ S, Ok C X.K F0 H0 F H σ S → ∀ Q, PostA C X.K W σ F H (m S) Q → t σ H Q) : DA C X W es m := by
  obtain ⟨t, p, k⟩ := h
  exact ⟨⟨fun pos pins s σ H Q I ⟨F0, H0, F, S, o, q⟩ => p.run pos pins s σ H Q I (k F0 H0 F H σ S o Q q)⟩⟩
theorem DA.ex {m : List Sl → R (List D)} (h : DA C X W es m) : ∃ t, PA X es t ∧ ∀ F0 H0 F H σ S, Ok C X.K F0 H0 F H σ S → ∀ Q, PostA C X.K W σ F H (m S) Q → t σ H Q :=
  ⟨_, h.run, fun F0 H0 F H σ S o Q q => ⟨F0, H0, F, S, o, q⟩⟩
theorem DAR.of {m : List Sl → R (List D)} (h : ∃ t, PA X es t ∧ ∀ F0 H0 F H σ S, Ok C X.K F0 H0 F H σ S → ∀ Q, PostAR C X.K W σ F H (m S) Q → t σ H Q) : DAR C X W es m := by
  obtain ⟨t, p, k⟩ := h
  exact ⟨⟨fun pos pins s σ H Q I ⟨F0, H0, F, S, o, q⟩ => p.run pos pins s σ H Q I (k F0 H0 F H σ S o Q q)⟩⟩
theorem DAR.ex {m : List Sl → R (List D)} (h : DAR C X W es m) : ∃ t, PA X es t ∧ ∀ F0 H0 F H σ S, Ok C X.K F0 H0 F H σ S → ∀ Q, PostAR C X.K W σ F H (m S) Q → t σ H Q :=
  ⟨_, h.run, fun F0 H0 F H σ S o Q q => ⟨F0, H0, F, S, o, q⟩⟩
theorem DE.r {m : List Sl → R D} (h : DE C X W e m) : DR C X W e m := by
  obtain ⟨t, p, k⟩ := h.ex
  refine .of ⟨t, p, fun F0 H0 F H σ S o Q q => k F0 H0 F H σ S o Q ?_⟩
  cases hm : m S with
  | ok x => rw [hm] at q; exact fun v F' H' e r => q v F' H' e (.of r)
  | exc x => rw [hm] at q; exact q
  | bad => rw [hm] at q; exact q
theorem DN.de {m : List Sl → R (List D)} (h : DN C X W e m) : DE C X W e (fun S => (m S).bind fun ds => .ok (.lst ds)) := by
  obtain ⟨t, p, k⟩ := h.ex
  exact .of ⟨t, p, fun F0 H0 F H σ S o Q q => k F0 H0 F H σ S o Q (PostN.of_post q)⟩
theorem DND.de {m : List Sl → R (List (Int × D))} (h : DND C X W e m) : DE C X W e (fun S => (m S).bind fun ds => .ok (.dct ds)) := by
  obtain ⟨t, p, k⟩ := h.ex
  exact .of ⟨t, p, fun F0 H0 F H σ S o Q q => k F0 H0 F H σ S o Q (PostND.of_post q)⟩
end
theorem pe_or2 {X : Cx} {e : Expr} {t u : TE} (h : PE X e t) (g : PE X e u) : PE X e (fun σ H Q => t σ H Q ∨ u σ H Q) := ⟨fun pins s σ H Q I k => k.elim (h.run pins s σ H Q I) (g.run pins s σ H Q I)⟩
theorem pc_or2 {X : Cx} {op : CmpOp} {a b : Expr} {t u : TE} (h : PC X op a b t) (g : PC X op a b u) : PC X op a b (fun σ H Q => t σ H Q ∨ u σ H Q) := ⟨fun pins s σ H Q I k => k.elim (h.run pins s σ H Q I) (g.run pins s σ H Q I)⟩
theorem pi_or2 {X : Cx} {tg e : Expr} {t u : TI} (h : PI X tg e t) (g : PI X tg e u) : PI X tg e (fun σ H Q => t σ H Q ∨ u σ H Q) := ⟨fun pins s σ H Q I k => k.elim (h.run pins s σ H Q I) (g.run pins s σ H Q I)⟩
theorem pc_op {X : Cx} {op : CmpOp} {a b : Expr} {r : R2} {ta tb : TE} (ho : OpR X (compareOp op) r) (ha : PE X a ta) (hb : PE X b tb) : PC X op a b (tOp r ta tb) :=
  ⟨fun pins s σ H Q I h => bin (R := fun x y H2 => r x y H2 Q) ha hb I h fun v u s2 x y H2 I2 rx ry q => ho pins s2 σ H2 x y v u Q I2 rx ry q⟩
end DL
/-! The data layer, part B: operators by data. -/
namespace DL
open PySem L2

/-! ### views taken apart -/
section
variable {K : PySem.W.Frag} {F H : Hp} {v : V}
theorem Vw.isInt {i : Int} (h : Vw K F H v (.int i)) : v = .int i := by
  rcases h with h | ⟨p, ws, es, h1, h2, h3, h4⟩ | ⟨p, ws, es, h1, h2, h3, h4⟩
  · cases h; rfl
  · cases h2
  · cases h2
theorem Vw.isBl {i : Bool} (h : Vw K F H v (.bl i)) : v = .bl i := by
  rcases h with h | ⟨p, ws, es, h1, h2, h3, h4⟩ | ⟨p, ws, es, h1, h2, h3, h4⟩
  · cases h; rfl
  · cases h2
  · cases h2
theorem Vw.isStr {i : Str} (h : Vw K F H v (.str i)) : v = .str i := by
  rcases h with h | ⟨p, ws, es, h1, h2, h3, h4⟩ | ⟨p, ws, es, h1, h2, h3, h4⟩
  · cases h; rfl
  · cases h2
  · cases h2
theorem Vw.isNon (h : Vw K F H v .non) : v = .non := by
  rcases h with h | ⟨p, ws, es, h1, h2, h3, h4⟩ | ⟨p, ws, es, h1, h2, h3, h4⟩
  · cases h; rfl
  · cases h2
  · cases h2
theorem Vw.isLst {ds : List D} (h : Vw K F H v (.lst ds)) (e : Same F H) : ∃ a vs, v = .ref a ∧ H a = some (.lst vs) ∧ RpA K F vs ds := by
  rcases h with h | ⟨p, ws, es, h1, h2, h3, h4⟩ | ⟨p, ws, es, h1, h2, h3, h4⟩
  · cases h with
    | lst h1 h2 => exact ⟨_, _, rfl, e _ _ h1, h2⟩
  · cases h2; exact ⟨p, ws, h1, h3, h4⟩
  · cases h2
theorem Vw.isTup {ds : List D} (h : Vw K F H v (.tup ds)) : ∃ a vs, v = .ref a ∧ F a = some (.tup vs) ∧ RpA K F vs ds := by
  rcases h with h | ⟨p, ws, es, h1, h2, h3, h4⟩ | ⟨p, ws, es, h1, h2, h3, h4⟩
  · cases h with
    | tup h1 h2 => exact ⟨_, _, rfl, h1, h2⟩
  · cases h2
  · cases h2
theorem Vw.isDct {ds : List (Int × D)} (h : Vw K F H v (.dct ds)) (e : Same F H) : ∃ a vs, v = .ref a ∧ Rd H a (.dK vs) ∧ RpK K F vs ds := by
  rcases h with h | ⟨p, ws, es, h1, h2, h3, h4⟩ | ⟨p, ws, es, h1, h2, h3, h4⟩
  · cases h with
    | dct h1 h2 => exact ⟨_, _, rfl, rd_mono e h1, h2⟩
  · cases h2
  · cases h2; exact ⟨p, ws, h1, .inl h3, h4⟩
theorem Vw.isScr {ns : List Int} (h : Vw K F H v (.scr ns)) (e : Same F H) : ∃ a, v = .ref a ∧ SqL K H a (ns.map V.int) := by
  rcases h with h | ⟨p, ws, es, h1, h2, h3, h4⟩ | ⟨p, ws, es, h1, h2, h3, h4⟩
  · cases h with
    | scr h1 => exact ⟨_, rfl, e.seq h1⟩
  · cases h2
  · cases h2
end

/-! ### what is wanted of a pure step -/
def PostP (K : PySem.W.Frag) (F H : Hp) (r : R D) (Q : VK) : Prop := match r with
  | .ok x => ∀ v F' H', Ext F H F' H' → Rp K F' v x → Q v H'
  | .exc _ => True
  | .bad => False
theorem PostP.of {C : CL} {K : PySem.W.Frag} {W : WX} {σ : St} {F H : Hp} {r : R D} {Q : VK} (h : Post C K W σ F H r Q) : PostP K F H r Q := by
  cases r with
  | ok x => exact h
  | exc x => trivial
  | bad => exact h
/-- a scalar: the heap as it is -/
theorem PostP.here {K : PySem.W.Frag} {F H : Hp} {x : D} {v : V} {Q : VK} (h : PostP K F H (.ok x) Q) (e : Same F H) (r : Rp K F v x) : Q v H := h v F H (Ext.refl e) r
theorem PostP.newT {K : PySem.W.Frag} {F H : Hp} {ds : List D} {vs : List V} {Q : VK} (h : PostP K F H (.ok (.tup ds)) Q) (e : Same F H) (r : RpA K F vs ds) {p : Addr} (hp : H p = none) : Q (.ref p) (upd H p (.tup vs)) :=
  h _ _ _ (Ext.new e hp) (.tup upd_same (r.up (same_new (none_of e hp))))
theorem PostP.newL {K : PySem.W.Frag} {F H : Hp} {ds : List D} {vs : List V} {Q : VK} (h : PostP K F H (.ok (.lst ds)) Q) (e : Same F H) (r : RpA K F vs ds) {p : Addr} (hp : H p = none) : Q (.ref p) (upd H p (.lst vs)) :=
  h _ _ _ (Ext.new e hp) (.lst upd_same (r.up (same_new (none_of e hp))))
def OpD (X : Cx) (f : Value → Value → Sem Value) (g : D → D → R D) : Prop :=
  ∃ r : R2, OpR X f r ∧ ∀ F H x y vx vy Q, Same F H → Vw X.K F H vx x → Vw X.K F H vy y → PostP X.K F H (g x y) Q → r vx vy H Q
def UnD (X : Cx) (f : Value → Sem Value) (g : D → R D) : Prop :=
  ∃ r : V → Hp → VK → Prop, UnR X f r ∧ ∀ F H x vx Q, Same F H → Vw X.K F H vx x → PostP X.K F H (g x) Q → r vx H Q

/-! ### arithmetic -/
def addD : D → D → R D
  | .int i, .int j => .ok (.int (i + j))
  | .str i, .str j => if i.length + j.length ≤ sizeLine then .ok (.str (i ++ j)) else .bad
  | .lst xs, .lst ys => if xs.length + ys.length ≤ sizeLine then .ok (.lst (xs ++ ys)) else .bad
  | .tup xs, .tup ys => if xs.length + ys.length ≤ sizeLine then .ok (.tup (xs ++ ys)) else .bad
  | _, _ => .bad
def subD : D → D → R D
  | .int i, .int j => .ok (.int (i - j))
  | _, _ => .bad
def mulD : D → D → R D
  | .int i, .int j => if (-(2 ^ 64) < i ∧ i < 2 ^ 64) ∨ (-(2 ^ 64) < j ∧ j < 2 ^ 64) then .ok (.int (i * j)) else .bad
  | _, _ => .bad
def fdivD : D → D → R D
  | .int i, .int j => if 0 < j ∧ j < 1073741824 then .ok (.int (i / j)) else .bad
  | _, _ => .bad
def modD : D → D → R D
  | .int i, .int j => if 0 < j then .ok (.int (i % j)) else .bad
  | _, _ => .bad
def powD : D → D → R D
  | .int i, .int j => if 0 ≤ j ∧ j ≤ 1000000 ∧ i.natAbs < 2 ^ 64 then .ok (.int (i ^ j.toNat)) else .bad
  | _, _ => .bad
def negD : D → R D
  | .int i => .ok (.int (-i))
  | _ => .bad
/-! ### comparisons -/
mutual
def toPy : D → PyData
  | .non => .none
  | .bl b => .bool b
  | .int i => .int i
  | .str s => .str s
  | .lst xs => .list (toPyA xs)
  | .tup xs => .tuple (toPyA xs)
  | .dct _ => .dict []
  | .scr _ => .dict []
def toPyA : List D → List PyData
  | [] => []
  | d :: ds => toPy d :: toPyA ds
end
def okPy (d : D) : Bool := SeqAt.shaped (toPy d)
def eqvD (x y : D) : Bool := PyData.eqv (toPy x) (toPy y)
def eqD : D → D → R D
  | .int i, .int j => .ok (.bl (decide (i = j)))
  | .str i, .str j => .ok (.bl (decide (i = j)))
  | .int _, .str _ => .ok (.bl false)
  | x, y => if (okPy x && okPy y) = true then .ok (.bl (eqvD x y)) else .bad
def notD : D → R D
  | .bl b => .ok (.bl (!b))
  | _ => .bad
def neD (x y : D) : R D := (eqD x y).bind notD
def ltD : D → D → R D
  | .int i, .int j => .ok (.bl (decide (i < j)))
  | _, _ => .bad
def leD : D → D → R D
  | .int i, .int j => .ok (.bl (decide (i ≤ j)))
  | .str i, .str j => .ok (.bl (!decide (j.cps.toList < i.cps.toList)))
  | _, _ => .bad
def gtD : D → D → R D
  | .int i, .int j => .ok (.bl (decide (j < i)))
  | _, _ => .bad
def geD : D → D → R D
  | .int i, .int j => .ok (.bl (decide (j ≤ i)))
  | _, _ => .bad
def flatD : D → Bool
  | .non => true
  | .bl _ => true
  | .int _ => true
  | .str _ => true
  | _ => false
def eqF : D → D → Bool
  | .non, .non => true
  | .bl a, .bl b => a == b
  | .bl a, .int b => (if a then 1 else 0) == b
  | .int a, .bl b => a == (if b then 1 else 0)
  | .int a, .int b => a == b
  | .str a, .str b => a == b
  | _, _ => false
def isNonD : D → Bool
  | .non => true
  | _ => false
def isD : D → D → R D
  | x, .non => .ok (.bl (isNonD x))
  | .bl a, .bl b => .ok (.bl (decide (a = b)))
  | .non, .bl _ => .ok (.bl false)
  | _, _ => .bad
def isNotD (x y : D) : R D := (isD x y).bind notD

section
variable {X : Cx}
theorem opd_add : OpD X (binaryOp .Add) addD := by
  refine ⟨_, (op_add.or (op_add_str.or (op_cat.or op_catA))), fun F H x y vx vy Q e hx hy h => ?_⟩
  cases x <;> cases y <;> first | exact h.elim | skip
  · cases hx.isInt; cases hy.isInt
    exact .inl ⟨_, _, rfl, rfl, h.here e (.int _)⟩
  · cases hx.isStr; cases hy.isStr
    rename_i i j
    by_cases c : i.length + j.length ≤ sizeLine
    · rw [addD, if_pos c] at h
      exact .inr (.inl ⟨_, _, rfl, rfl, c, h.here e (.str _)⟩)
    · rw [addD, if_neg c] at h; exact h.elim
  · rename_i xs ys
    by_cases c : xs.length + ys.length ≤ sizeLine
    · rw [addD, if_pos c] at h
      obtain ⟨a, vs, rfl, ha, ra⟩ := hx.isLst e
      obtain ⟨b, ws, rfl, hb, rb⟩ := hy.isLst e
      refine .inr (.inr (.inl ⟨a, b, vs, ws, rfl, rfl, ha, hb, by rw [ra.len, rb.len]; exact c, fun p hp => ?_⟩))
      exact h.newL e (ra.app rb) hp
    · rw [addD, if_neg c] at h; exact h.elim
  · rename_i xs ys
    by_cases c : xs.length + ys.length ≤ sizeLine
    · rw [addD, if_pos c] at h
      obtain ⟨a, vs, rfl, ha, ra⟩ := hx.isTup
      obtain ⟨b, ws, rfl, hb, rb⟩ := hy.isTup
      refine .inr (.inr (.inr ⟨a, b, vs, ws, rfl, rfl, SqT.of (e _ _ ha), SqT.of (e _ _ hb), by rw [ra.len, rb.len]; exact c, fun z => ?_, fun z1 z2 => ?_, fun _ _ p hp => ?_⟩))
      · subst z
        cases xs with
        | nil => exact h.here e (.tup hb rb)
        | cons _ _ => have := ra.len; simp at this
      · subst z2
        cases ys with
        | nil => exact h.here e (.tup ha (by rw [List.append_nil]; exact ra))
        | cons _ _ => have := rb.len; simp at this
      · exact h.newT e (ra.app rb) hp
    · rw [addD, if_neg c] at h; exact h.elim
theorem opd_sub : OpD X (binaryOp .Sub) subD := by
  refine ⟨_, op_sub, fun F H x y vx vy Q e hx hy h => ?_⟩
  cases x <;> cases y <;> first | exact h.elim | skip
  cases hx.isInt; cases hy.isInt
  exact ⟨_, _, rfl, rfl, h.here e (.int _)⟩
theorem opd_mul : OpD X (binaryOp .Mult) mulD := by
  refine ⟨_, op_mul, fun F H x y vx vy Q e hx hy h => ?_⟩
  cases x <;> cases y <;> first | exact h.elim | skip
  cases hx.isInt; cases hy.isInt
  rename_i i j
  by_cases c : (-(2 ^ 64) < i ∧ i < 2 ^ 64) ∨ (-(2 ^ 64) < j ∧ j < 2 ^ 64)
  · rw [mulD, if_pos c] at h
    exact ⟨_, _, rfl, rfl, c, h.here e (.int _)⟩
  · rw [mulD, if_neg c] at h; exact h.elim
theorem opd_fdiv : OpD X (binaryOp .FloorDiv) fdivD := by
  refine ⟨_, op_fdiv, fun F H x y vx vy Q e hx hy h => ?_⟩
  cases x <;> cases y <;> first | exact h.elim | skip
  cases hx.isInt; cases hy.isInt
  rename_i i j
  by_cases c : 0 < j ∧ j < 1073741824
  · rw [fdivD, if_pos c] at h
    exact ⟨_, _, rfl, rfl, c, h.here e (.int _)⟩
  · rw [fdivD, if_neg c] at h; exact h.elim
theorem opd_mod : OpD X (binaryOp .Mod) modD := by
  refine ⟨_, op_mod, fun F H x y vx vy Q e hx hy h => ?_⟩
  cases x <;> cases y <;> first | exact h.elim | skip
  cases hx.isInt; cases hy.isInt
  rename_i i j
  by_cases c : 0 < j
  · rw [modD, if_pos c] at h
    exact ⟨_, _, rfl, rfl, c, h.here e (.int _)⟩
  · rw [modD, if_neg c] at h; exact h.elim
theorem opd_pow : OpD X (binaryOp .Pow) powD := by
  refine ⟨_, op_pow, fun F H x y vx vy Q e hx hy h => ?_⟩
  cases x <;> cases y <;> first | exact h.elim | skip
  cases hx.isInt; cases hy.isInt
  rename_i i j
  by_cases c : 0 ≤ j ∧ j ≤ 1000000 ∧ i.natAbs < 2 ^ 64
  · rw [powD, if_pos c] at h
    exact ⟨_, _, rfl, rfl, c, h.here e (.int _)⟩
  · rw [powD, if_neg c] at h; exact h.elim
theorem und_neg : UnD X (unaryOp .USub) negD := by
  refine ⟨_, un_neg, fun F H x vx Q e hx h => ?_⟩
  cases x <;> first | exact h.elim | skip
  cases hx.isInt
  exact ⟨_, rfl, h.here e (.int _)⟩

/-! == -/
mutual
theorem Rp.dp {K : PySem.W.Frag} {F : Hp} : ∀ (d : D) (v : V), Rp K F v d → (toPy d).canLay0 = true → Dp K F v (toPy d)
  | .non, _, h, _ => by cases h; unfold toPy; exact .non
  | .bl b, _, h, _ => by cases h; unfold toPy; exact .bl b
  | .int i, _, h, _ => by cases h; unfold toPy; exact .int i
  | .str i, _, h, _ => by cases h; unfold toPy; exact .str i
  | .lst ds, _, h, c => by
    cases h with
    | lst h1 h2 =>
      unfold toPy at c ⊢
      exact .lst (SqL.of h1) (RpA.dp ds _ h2 (by simpa [PyData.canLay0] using c))
  | .tup ds, _, h, c => by
    cases h with
    | tup h1 h2 =>
      unfold toPy at c ⊢
      exact .tup (SqT.of h1) (RpA.dp ds _ h2 (by simpa [PyData.canLay0] using c))
  | .dct _, _, _, c => by unfold toPy at c; simp [PyData.canLay0] at c
  | .scr _, _, _, c => by unfold toPy at c; simp [PyData.canLay0] at c
theorem RpA.dp {K : PySem.W.Frag} {F : Hp} : ∀ (ds : List D) (vs : List V), RpA K F vs ds → PyData.canLayAll0 (toPyA ds) = true → DpAll K F vs (toPyA ds)
  | [], _, h, _ => by cases h; unfold toPyA; exact .nil
  | d :: ds, _, h, c => by
    cases h with
    | cons h1 h2 =>
      unfold toPyA at c ⊢
      have c' : (toPy d).canLay0 = true ∧ PyData.canLayAll0 (toPyA ds) = true := by simpa [PyData.canLayAll0] using c
      exact .cons (Rp.dp d _ h1 c'.1) (RpA.dp ds _ h2 c'.2)
end
theorem lay_of {d : D} (h : okPy d = true) : (toPy d).canLay0 = true := SeqAt.canLay_of_shaped h
/-- the last arm of == -/
theorem eqD_deep {F H : Hp} {x y : D} {vx vy : V} {Q : VK} (e : Same F H) (hx : Vw X.K F H vx x) (hy : Vw X.K F H vy y)
    (h : PostP X.K F H (if (okPy x && okPy y) = true then .ok (.bl (eqvD x y)) else .bad) Q) : rEqD X.K vx vy H Q := by
  by_cases c : (okPy x && okPy y) = true
  · rw [if_pos c] at h
    have c' := Bool.and_eq_true_iff.mp c
    exact ⟨_, _, Rp.dp x _ (hx.rp e) (lay_of c'.1), Rp.dp y _ (hy.rp e) (lay_of c'.2), c'.1, c'.2, h.here e (.bl _)⟩
  · rw [if_neg c] at h; exact h.elim
theorem opd_eq (hu : X.A.units + 64 < cLine) : OpD X (compareOp .Eq) eqD := by
  refine ⟨_, op_eq.or (op_eqD hu), fun F H x y vx vy Q e hx hy h => ?_⟩
  cases x <;> cases y <;> first
    | (cases hx.isInt; cases hy.isInt; exact .inl ⟨rfl, by
        rename_i i j
        have q : decide (V.int i = V.int j) = decide (i = j) := by by_cases c : i = j <;> simp [c]
        rw [q]
        exact h.here e (.bl _)⟩)
    | (cases hx.isStr; cases hy.isStr; exact .inl ⟨rfl, by
        rename_i i j
        have q : decide (V.str i = V.str j) = decide (i = j) := by by_cases c : i = j <;> simp [c]
        rw [q]
        exact h.here e (.bl _)⟩)
    | (cases hx.isInt; cases hy.isStr; exact .inl ⟨rfl, by
        rename_i i j
        have q : decide (V.int i = V.str j) = false := by simp
        rw [q]
        exact h.here e (.bl _)⟩)
    | exact .inr (eqD_deep e hx hy h)
theorem neD_deep {F H : Hp} {x y : D} {vx vy : V} {Q : VK} (e : Same F H) (hx : Vw X.K F H vx x) (hy : Vw X.K F H vy y)
    (h : PostP X.K F H ((if (okPy x && okPy y) = true then R.ok (D.bl (eqvD x y)) else .bad).bind notD) Q) : rNeD X.K vx vy H Q := by
  by_cases c : (okPy x && okPy y) = true
  · rw [if_pos c] at h
    have c' := Bool.and_eq_true_iff.mp c
    exact ⟨_, _, Rp.dp x _ (hx.rp e) (lay_of c'.1), Rp.dp y _ (hy.rp e) (lay_of c'.2), c'.1, c'.2, PostP.here (x := .bl (!eqvD x y)) h e (.bl _)⟩
  · rw [if_neg c] at h; exact h.elim
theorem opd_ne (hu : X.A.units + 64 < cLine) : OpD X (compareOp .NotEq) neD := by
  refine ⟨_, op_ne.or (op_neD hu), fun F H x y vx vy Q e hx hy h => ?_⟩
  cases x <;> cases y <;> first
    | (cases hx.isInt; cases hy.isInt; exact .inl ⟨rfl, by
        rename_i i j
        have q : (!decide (V.int i = V.int j)) = !decide (i = j) := by by_cases c : i = j <;> simp [c]
        rw [q]
        exact PostP.here (x := .bl (!decide (i = j))) h e (.bl _)⟩)
    | (cases hx.isStr; cases hy.isStr; exact .inl ⟨rfl, by
        rename_i i j
        have q : (!decide (V.str i = V.str j)) = !decide (i = j) := by by_cases c : i = j <;> simp [c]
        rw [q]
        exact PostP.here (x := .bl (!decide (i = j))) h e (.bl _)⟩)
    | (cases hx.isInt; cases hy.isStr; exact .inl ⟨rfl, by
        rename_i i j
        have q : (!decide (V.int i = V.str j)) = true := by simp
        rw [q]
        exact PostP.here (x := .bl true) h e (.bl _)⟩)
    | exact .inr (neD_deep e hx hy h)
theorem opd_lt : OpD X (compareOp .Lt) ltD := by
  refine ⟨_, op_lt, fun F H x y vx vy Q e hx hy h => ?_⟩
  cases x <;> cases y <;> first | exact h.elim | skip
  cases hx.isInt; cases hy.isInt
  exact ⟨_, _, rfl, rfl, h.here e (.bl _)⟩
theorem opd_le : OpD X (compareOp .LtE) leD := by
  refine ⟨_, op_le.or op_le_str, fun F H x y vx vy Q e hx hy h => ?_⟩
  cases x <;> cases y <;> first | exact h.elim | skip
  · cases hx.isInt; cases hy.isInt
    exact .inl ⟨_, _, rfl, rfl, h.here e (.bl _)⟩
  · cases hx.isStr; cases hy.isStr
    exact .inr ⟨_, _, rfl, rfl, h.here e (.bl _)⟩
theorem opd_gt : OpD X (compareOp .Gt) gtD := by
  refine ⟨_, op_gt, fun F H x y vx vy Q e hx hy h => ?_⟩
  cases x <;> cases y <;> first | exact h.elim | skip
  cases hx.isInt; cases hy.isInt
  exact ⟨_, _, rfl, rfl, h.here e (.bl _)⟩
theorem opd_ge : OpD X (compareOp .GtE) geD := by
  refine ⟨_, op_ge, fun F H x y vx vy Q e hx hy h => ?_⟩
  cases x <;> cases y <;> first | exact h.elim | skip
  cases hx.isInt; cases hy.isInt
  exact ⟨_, _, rfl, rfl, h.here e (.bl _)⟩
theorem isNon_of {K : PySem.W.Frag} {F H : Hp} {v : V} {x : D} (e : Same F H) (h : Vw K F H v x) : decide (v = .non) = isNonD x := by
  cases x with
  | non => cases h.isNon; rfl
  | bl b => cases h.isBl; rfl
  | int b => cases h.isInt; rfl
  | str b => cases h.isStr; rfl
  | lst b => obtain ⟨_, _, q, _⟩ := h.isLst e; subst q; rfl
  | tup b => obtain ⟨_, _, q, _⟩ := h.isTup; subst q; rfl
  | dct b => obtain ⟨_, _, q, _⟩ := h.isDct e; subst q; rfl
  | scr b => obtain ⟨_, q, _⟩ := h.isScr e; subst q; rfl
theorem isD_non (x : D) : isD x .non = .ok (.bl (isNonD x)) := by cases x <;> rfl
theorem op_is_nb : OpR X (compareOp .Is) (fun x y H Q => ∃ b, x = .non ∧ y = .bl b ∧ Q (.bl false) H) := by
  intro pins s σ H x y v u Q I rx ry h
  obtain ⟨b, rfl, rfl, q⟩ := h
  cases (show v = Value.none from rx)
  cases (show u = Value.bool b from ry)
  exact wpAny_is_other rfl (fun z => by cases z) ⟨.bl false, H, I, rfl, q⟩
theorem op_isnot_nb : OpR X (compareOp .IsNot) (fun x y H Q => ∃ b, x = .non ∧ y = .bl b ∧ Q (.bl true) H) := by
  intro pins s σ H x y v u Q I rx ry h
  obtain ⟨b, rfl, rfl, q⟩ := h
  cases (show v = Value.none from rx)
  cases (show u = Value.bool b from ry)
  exact wpAny_isNot_other rfl (fun z => by cases z) ⟨.bl true, H, I, rfl, q⟩
theorem opd_is : OpD X (compareOp .Is) isD := by
  refine ⟨_, op_isN.or (op_is_bl.or op_is_nb), fun F H x y vx vy Q e hx hy h => ?_⟩
  cases y with
  | non =>
    cases hy.isNon
    rw [isD_non] at h
    refine .inl ⟨rfl, ?_⟩
    rw [isNon_of e hx]
    exact h.here e (.bl _)
  | bl b =>
    cases x <;> first | exact h.elim | skip
    · cases hx.isNon; cases hy.isBl
      exact .inr (.inr ⟨_, rfl, rfl, h.here e (.bl _)⟩)
    · cases hx.isBl; cases hy.isBl
      exact .inr (.inl ⟨_, _, rfl, rfl, h.here e (.bl _)⟩)
  | _ => cases x <;> exact h.elim
theorem opd_isNot : OpD X (compareOp .IsNot) isNotD := by
  refine ⟨_, op_notN.or (op_isnot_bl.or op_isnot_nb), fun F H x y vx vy Q e hx hy h => ?_⟩
  cases y with
  | non =>
    cases hy.isNon
    unfold isNotD at h
    rw [isD_non] at h
    refine .inl ⟨rfl, ?_⟩
    rw [isNon_of e hx]
    exact PostP.here h e (.bl _)
  | bl b =>
    cases x <;> first | exact h.elim | skip
    · cases hx.isNon; cases hy.isBl
      exact .inr (.inr ⟨_, rfl, rfl, PostP.here h e (.bl _)⟩)
    · cases hx.isBl; cases hy.isBl
      exact .inr (.inl ⟨_, _, rfl, rfl, PostP.here h e (.bl _)⟩)
  | _ => cases x <;> exact h.elim
end

/-! ### in -/
section
variable {K : PySem.W.Frag} {F H : Hp}
theorem flat_of {v : V} {d : D} (h : Rp K F v d) : flatV v = flatD d := by cases h <;> rfl
theorem flatA_of : ∀ {vs : List V} {ds : List D}, RpA K F vs ds → vs.all flatV = ds.all flatD
  | _, [], h => by cases h; rfl
  | _, d :: ds, h => by
    cases h with
    | cons h1 h2 => rw [List.all_cons, List.all_cons, flat_of h1, flatA_of h2]
theorem eqF_of {v w : V} {d e : D} (h : Rp K F v d) (g : Rp K F w e) : eqV v w = eqF d e := by
  cases h <;> cases g <;> rfl
theorem inF_of {w : V} {e : D} (g : Rp K F w e) : ∀ {vs : List V} {ds : List D}, RpA K F vs ds → inV w vs = ds.any fun y => eqF y e
  | _, [], h => by cases h; rfl
  | _, d :: ds, h => by
    cases h with
    | cons h1 h2 =>
      have q := inF_of g h2
      unfold inV at q ⊢
      rw [List.any_cons, List.any_cons, eqF_of h1 g, q]
end
/-- x in a list or tuple, of flat things or deep (lists alone) -/
def inSeq (x : D) (ds : List D) (l : Bool) : R D :=
  if (flatD x && ds.all flatD) = true then .ok (.bl (ds.any fun y => eqF y x))
  else if (l && (okPy x && okPy (.lst ds))) = true then .ok (.bl ((toPyA ds).any fun z => PyData.eqv z (toPy x))) else .bad
def keyD (es : List (Int × D)) (k : Int) : Option D := (es.find? fun e => decide (e.1 = k)).map (·.2)
def inD (x : D) : D → R D
  | .lst ds => inSeq x ds true
  | .tup ds => inSeq x ds false
  | .str z => match x with
    | .str c => (match c.cps.toList with | [k] => .ok (.bl (decide (k ∈ z.cps.toList))) | _ => .bad)
    | _ => .bad
  | .dct es => match x with
    | .int i => .ok (.bl (keyD es i).isSome)
    | _ => .bad
  | _ => .bad
def notInD (x y : D) : R D := (inD x y).bind notD
section
variable {X : Cx}
theorem str_one {c : Str} {k : Nat} (h : c.cps.toList = [k]) : c = ⟨#[k]⟩ := by
  obtain ⟨⟨l⟩⟩ := c
  have h' : l = [k] := h
  rw [h']
theorem valV_keyD {K : PySem.W.Frag} {F : Hp} (k : Int) : ∀ {kvs : List (Key × V)} {es : List (Int × D)}, RpK K F kvs es → (valV kvs (Sum.inl k) = none ∧ keyD es k = none) ∨ ∃ v d, valV kvs (Sum.inl k) = some v ∧ keyD es k = some d ∧ Rp K F v d
  | _, [], h => by cases h; exact .inl ⟨rfl, rfl⟩
  | _, (j, d) :: es, h => by
    cases h with
    | cons h1 h2 =>
      by_cases c : j = k
      · subst c
        exact .inr ⟨_, d, valV_pos rfl, by simp [keyD], h1⟩
      · have q := valV_keyD k h2
        rw [valV_neg (fun z => c (Sum.inl.inj z))]
        have e : keyD ((j, d) :: es) k = keyD es k := by simp [keyD, c]
        rw [e]
        exact q
/-- one sign in a text -/
def rSgn : R2 := fun x y H Q => ∃ (c : Nat) (z : Str), x = .str ⟨#[c]⟩ ∧ y = .str z ∧ Q (.bl (decide (c ∈ z.cps.toList))) H
def rSgnN : R2 := fun x y H Q => ∃ (c : Nat) (z : Str), x = .str ⟨#[c]⟩ ∧ y = .str z ∧ Q (.bl (!decide (c ∈ z.cps.toList))) H
theorem op_sgn : OpR X (compareOp .In) rSgn := op_in_sign
theorem op_sgnN : OpR X (compareOp .NotIn) rSgnN := op_notIn_sign
/-- the ways of in, by values -/
def rInAll (X : Cx) (neg : Bool) : R2 := fun x y H Q => (if neg then rSgnN x y H Q else rSgn x y H Q) ∨ rIn X.K neg x y H Q ∨ (if neg then rNotInD X.K x y H Q else rInD X.K x y H Q)
theorem inSeq_post {F H : Hp} {x : D} {ds : List D} {l neg : Bool} {vx : V} {a : Addr} {vs : List V} {Q : VK} (e : Same F H) (hx : Vw X.K F H vx x) (hs : if l = true then H a = some (.lst vs) else F a = some (.tup vs)) (ra : RpA X.K F vs ds)
    (h : PostP X.K F H ((inSeq x ds l).bind fun d => if neg then notD d else .ok d) Q) : rIn X.K neg vx (.ref a) H Q ∨ (if neg then rNotInD X.K vx (.ref a) H Q else rInD X.K vx (.ref a) H Q) := by
  unfold inSeq at h
  by_cases c : (flatD x && ds.all flatD) = true
  · rw [if_pos c] at h
    have c' := Bool.and_eq_true_iff.mp c
    have rx : Rp X.K H vx x := hx.rp e
    have ra' : RpA X.K H vs ds := ra.up e
    refine .inl ⟨a, vs, rfl, ?_, (flat_of rx).trans c'.1, (flatA_of ra').trans c'.2, ?_⟩
    · cases l with
      | true => exact .inl (SqL.of hs)
      | false => exact .inr (SqT.of (e _ _ hs))
    · rw [inF_of rx ra']
      cases neg with
      | true => exact PostP.here (x := .bl (!ds.any fun y => eqF y x)) h e (.bl _)
      | false => exact PostP.here (x := .bl (ds.any fun y => eqF y x)) h e (.bl _)
  · rw [if_neg c] at h
    by_cases c2 : (l && (okPy x && okPy (.lst ds))) = true
    · rw [if_pos c2] at h
      simp only [Bool.and_eq_true] at c2
      obtain ⟨hl, o1, o2⟩ := c2
      subst hl
      have rx : Rp X.K H vx x := hx.rp e
      have rl : Rp X.K H (.ref a) (.lst ds) := .lst hs (ra.up e)
      have d1 := Rp.dp x _ rx (lay_of o1)
      have d2 := Rp.dp (.lst ds) _ rl (lay_of o2)
      have e2 : toPy (.lst ds) = .list (toPyA ds) := by rw [toPy]
      unfold okPy at o2
      rw [e2] at d2 o2
      cases neg with
      | true => exact .inr ⟨_, _, d1, d2, o1, o2, PostP.here (x := .bl (!(toPyA ds).any fun z => PyData.eqv z (toPy x))) h e (.bl _)⟩
      | false => exact .inr ⟨_, _, d1, d2, o1, o2, PostP.here (x := .bl ((toPyA ds).any fun z => PyData.eqv z (toPy x))) h e (.bl _)⟩
    · rw [if_neg c2] at h; exact h.elim
theorem in_post {F H : Hp} {x y : D} {neg : Bool} {vx vy : V} {Q : VK} (e : Same F H) (hx : Vw X.K F H vx x) (hy : Vw X.K F H vy y) (hd : ∀ es, y ≠ .dct es) (h : PostP X.K F H ((inD x y).bind fun d => if neg then notD d else .ok d) Q) : rInAll X neg vx vy H Q := by
  cases y with
  | lst ds =>
    obtain ⟨a, vs, rfl, ha, ra⟩ := hy.isLst e
    exact .inr (inSeq_post (l := true) e hx ha ra h)
  | tup ds =>
    obtain ⟨a, vs, rfl, ha, ra⟩ := hy.isTup
    exact .inr (inSeq_post (l := false) e hx ha ra h)
  | str z =>
    cases hy.isStr
    cases x with
    | str c =>
      cases hx.isStr
      unfold inD at h
      simp only at h
      split at h
      · rename_i k hk
        have q := str_one hk
        subst q
        refine .inl ?_
        cases neg with
        | true => exact ⟨k, z, rfl, rfl, PostP.here (x := .bl (!decide (k ∈ z.cps.toList))) h e (.bl _)⟩
        | false => exact ⟨k, z, rfl, rfl, PostP.here (x := .bl (decide (k ∈ z.cps.toList))) h e (.bl _)⟩
      · exact h.elim
    | _ => exact h.elim
  | dct es => exact absurd rfl (hd es)
  | _ => exact h.elim
end
end DL
/-! The data layer, part C: expressions. -/
namespace DL
open PySem L2

/-- goals that go along with the heap -/
structure GO (C : CL) (K : PySem.W.Frag) (W : WX) (σ : St) {α : Type} (G : Hp → Hp → R α → Prop) : Prop where
  up : ∀ F H F1 H1 x, Ext F H F1 H1 → G F H x → G F1 H1 x
  ge : ∀ F H e, G F H (.exc e) → Wish C W σ F H e
  gb : ∀ F H, ¬ G F H .bad
section
variable {C : CL} {K : PySem.W.Frag} {W : WX} {σ : St} {F H : Hp} {α : Type} {G : Hp → Hp → R α → Prop}
theorem gE (Q : VK) : GO C K W σ (fun F H r => Post C K W σ F H r Q) := ⟨fun _ _ _ _ _ e h => h.up e, fun _ _ _ h => h, fun _ _ h => h⟩
theorem gV (Q : VK) : GO C K W σ (fun F H r => PostV C K W σ F H r Q) := ⟨fun _ _ _ _ _ e h => h.up e, fun _ _ _ h => h, fun _ _ h => h⟩
theorem gN (Q : VK) : GO C K W σ (fun F H r => PostN C K W σ F H r Q) := ⟨fun _ _ _ _ _ e h => h.up e, fun _ _ _ h => h, fun _ _ h => h⟩
theorem gND (Q : VK) : GO C K W σ (fun F H r => PostND C K W σ F H r Q) := ⟨fun _ _ _ _ _ e h => h.up e, fun _ _ _ h => h, fun _ _ h => h⟩
theorem gT (Q : Bool → Hp → Prop) : GO C K W σ (fun F H r => PostT C K W σ F H r Q) := ⟨fun _ _ _ _ _ e h => h.up e, fun _ _ _ h => h, fun _ _ h => h⟩
theorem gA (Q : List V → Hp → Prop) : GO C K W σ (fun F H r => PostA C K W σ F H r Q) := ⟨fun _ _ _ _ _ e h => h.up e, fun _ _ _ h => h, fun _ _ h => h⟩
theorem gAR (Q : List V → Hp → Prop) : GO C K W σ (fun F H r => PostAR C K W σ F H r Q) := ⟨fun _ _ _ _ _ e h => h.up e, fun _ _ _ h => h, fun _ _ h => h⟩
theorem Post.to {r : R D} {f : D → R α} {Q : VK} (g : GO C K W σ G) (h : G F H (r.bind f)) (k : ∀ x v F1 H1, Ext F H F1 H1 → Rp K F1 v x → G F1 H1 (f x) → Q v H1) : Post C K W σ F H r Q :=
  Post.bind h (fun _ _ x e q => g.up _ _ _ _ x e q) (fun e q => g.ge _ _ e q) (fun q => g.gb _ _ q) k
theorem PostV.to {r : R D} {f : D → R α} {Q : VK} (g : GO C K W σ G) (h : G F H (r.bind f)) (k : ∀ x v F1 H1, Ext F H F1 H1 → Vw K F1 H1 v x → G F1 H1 (f x) → Q v H1) : PostV C K W σ F H r Q :=
  PostV.bind h (fun _ _ x e q => g.up _ _ _ _ x e q) (fun e q => g.ge _ _ e q) (fun q => g.gb _ _ q) k
theorem PostA.to {r : R (List D)} {f : List D → R α} {Q : List V → Hp → Prop} (g : GO C K W σ G) (h : G F H (r.bind f)) (k : ∀ x v F1 H1, Ext F H F1 H1 → VwA K F1 H1 v x → G F1 H1 (f x) → Q v H1) : PostA C K W σ F H r Q :=
  PostA.bind h (fun _ _ x e q => g.up _ _ _ _ x e q) (fun e q => g.ge _ _ e q) (fun q => g.gb _ _ q) k
theorem PostAR.to {r : R (List D)} {f : List D → R α} {Q : List V → Hp → Prop} (g : GO C K W σ G) (h : G F H (r.bind f)) (k : ∀ x v F1 H1, Ext F H F1 H1 → RpA K F1 v x → G F1 H1 (f x) → Q v H1) : PostAR C K W σ F H r Q :=
  PostAR.bind h (fun _ _ x e q => g.up _ _ _ _ x e q) (fun e q => g.ge _ _ e q) (fun q => g.gb _ _ q) k
theorem PostT.to {r : R Bool} {f : Bool → R α} {Q : Bool → Hp → Prop} (g : GO C K W σ G) (h : G F H (r.bind f)) (k : ∀ x F1 H1, Ext F H F1 H1 → G F1 H1 (f x) → Q x H1) : PostT C K W σ F H r Q :=
  PostT.bind h (fun _ _ x e q => g.up _ _ _ _ x e q) (fun e q => g.ge _ _ e q) (fun q => g.gb _ _ q) k
/-- .. with what has come -/
theorem PostV.toq {r : R D} {f : D → R α} {Q : VK} (g : GO C K W σ G) (h : G F H (r.bind f)) (k : ∀ x v F1 H1, r = .ok x → Ext F H F1 H1 → Vw K F1 H1 v x → G F1 H1 (f x) → Q v H1) : PostV C K W σ F H r Q := by
  cases r with
  | ok x => exact fun v F1 H1 e r => k x v F1 H1 rfl e r (g.up _ _ _ _ _ e h)
  | exc e => exact g.ge _ _ e h
  | bad => exact (g.gb _ _ h).elim
theorem Post.toq {r : R D} {f : D → R α} {Q : VK} (g : GO C K W σ G) (h : G F H (r.bind f)) (k : ∀ x v F1 H1, r = .ok x → Ext F H F1 H1 → Rp K F1 v x → G F1 H1 (f x) → Q v H1) : Post C K W σ F H r Q := by
  cases r with
  | ok x => exact fun v F1 H1 e r => k x v F1 H1 rfl e r (g.up _ _ _ _ _ e h)
  | exc e => exact g.ge _ _ e h
  | bad => exact (g.gb _ _ h).elim
/-- a value that is there -/
theorem Post.here {x : D} {v : V} {Q : VK} (h : Post C K W σ F H (.ok x) Q) (e : Same F H) (r : Rp K F v x) : Q v H := h v F H (Ext.refl e) r
end

/-! ### names, constants -/
def getV (i : Nat) (S : List Sl) : R D := match S[i]? with
  | some (.fz d) => .ok d
  | some (.ol ds) => .ok (.lst ds)
  | some (.od es) => .ok (.dct es)
  | some (.pl _ ds) => .ok (.lst ds)
  | some (.pd _ es) => .ok (.dct es)
  | _ => .bad
def getF (i : Nat) (S : List Sl) : R D := match S[i]? with
  | some (.fz d) => .ok d
  | _ => .bad
def cst (d : D) (_ : List Sl) : R D := .ok d
section
variable {C : CL} {X : Cx} {W : WX} {e a b : Expr} {pos : Pos} {op : Operator} {es : List Expr}
theorem dr_var {i : Nat} (h : PE X e (tVar i)) : DR C X W e (getV i) := by
  refine .of ⟨_, h, fun F0 H0 F H σ S o Q q => ?_⟩
  unfold getV at q
  split at q
  · rename_i d hd
    obtain ⟨v, h1, u, h2, h3⟩ := o.at hd
    subst h2
    exact ⟨u, h1, q u F H (Ext.refl o.sub) (.of h3)⟩
  · rename_i d hd
    obtain ⟨v, h1, p, vs, h2, h3, h4, h5⟩ := o.at hd
    subst h2
    exact ⟨_, h1, q _ F H (Ext.refl o.sub) (.inr (.inl ⟨p, vs, d, rfl, rfl, h4, h5⟩))⟩
  · rename_i d hd
    obtain ⟨v, h1, p, vs, h2, h3, h4, h5⟩ := o.at hd
    subst h2
    exact ⟨_, h1, q _ F H (Ext.refl o.sub) (.inr (.inr ⟨p, vs, d, rfl, rfl, h4, h5⟩))⟩
  · rename_i j d hd
    obtain ⟨v, h1, p, vs, h2, h3, h4, h5⟩ := o.at hd
    subst h2
    exact ⟨_, h1, q _ F H (Ext.refl o.sub) (.inr (.inl ⟨p, vs, d, rfl, rfl, h4, h5⟩))⟩
  · rename_i j d hd
    obtain ⟨v, h1, p, vs, h2, h3, h4, h5⟩ := o.at hd
    subst h2
    exact ⟨_, h1, q _ F H (Ext.refl o.sub) (.inr (.inr ⟨p, vs, d, rfl, rfl, h4, h5⟩))⟩
  · exact q.elim
theorem de_var {i : Nat} (h : PE X e (tVar i)) : DE C X W e (getF i) := by
  refine .of ⟨_, h, fun F0 H0 F H σ S o Q q => ?_⟩
  unfold getF at q
  split at q
  · rename_i d hd
    obtain ⟨v, h1, u, h2, h3⟩ := o.at hd
    subst h2
    exact ⟨u, h1, q u F H (Ext.refl o.sub) h3⟩
  · exact q.elim
theorem de_tC {v : V} {d : D} (h : PE X e (tC v)) (r : ∀ F, Rp X.K F v d) : DE C X W e (cst d) :=
  .of ⟨_, h, fun F0 H0 F H σ S o Q q => Post.here q o.sub (r F)⟩
theorem de_int {i : Int} {j} : DE C X W (.Constant (.int i) j pos) (cst (.int i)) := de_tC pe_int fun _ => .int i
theorem de_bl {i : Bool} {j} : DE C X W (.Constant (.bool i) j pos) (cst (.bl i)) := de_tC pe_bl fun _ => .bl i
theorem de_str {i : Str} {j} : DE C X W (.Constant (.str i) j pos) (cst (.str i)) := de_tC pe_str fun _ => .str i
theorem de_non {j} : DE C X W (.Constant .none j pos) (cst .non) := de_tC pe_non fun _ => .non

/-! ### operators -/
def m2 (g : D → D → R D) (ma mb : List Sl → R D) (S : List Sl) : R D := (ma S).bind fun x => (mb S).bind fun y => g x y
def m1 (g : D → R D) (ma : List Sl → R D) (S : List Sl) : R D := (ma S).bind g
theorem de_bin {g : D → D → R D} {ma mb : List Sl → R D} (o : OpD X (binaryOp op) g) (ha : DR C X W a ma) (hb : DR C X W b mb) : DE C X W (.BinOp a op b pos) (m2 g ma mb) := by
  obtain ⟨r, hr, k⟩ := o
  obtain ⟨ta, pa, ka⟩ := ha.ex
  obtain ⟨tb, pb, kb⟩ := hb.ex
  refine .of ⟨_, pe_op hr pa pb, fun F0 H0 F H σ S o Q q => ?_⟩
  refine ka _ _ _ _ _ _ o _ (PostV.to (gE Q) q fun x v F1 H1 e1 w1 q1 => ?_)
  refine kb _ _ _ _ _ _ (o.up e1) _ (PostV.to (gE Q) q1 fun y u F2 H2 e2 w2 q2 => ?_)
  exact k F2 H2 x y v u Q e2.fh (w1.up e2) w2 (PostP.of q2)
theorem de_un {op : UnaryOp} {g : D → R D} {ma : List Sl → R D} (o : UnD X (unaryOp op) g) (ha : DR C X W a ma) : DE C X W (.UnaryOp op a pos) (m1 g ma) := by
  obtain ⟨r, hr, k⟩ := o
  obtain ⟨ta, pa, ka⟩ := ha.ex
  refine .of ⟨_, pe_un hr pa, fun F0 H0 F H σ S o Q q => ?_⟩
  refine ka _ _ _ _ _ _ o _ (PostV.to (gE Q) q fun x v F1 H1 e1 w1 q1 => ?_)
  exact k F1 H1 x v Q e1.fh w1 (PostP.of q1)

/-! ### comparisons -/
theorem dc_op {op : CmpOp} {g : D → D → R D} {ma mb : List Sl → R D} (o : OpD X (compareOp op) g) (ha : DR C X W a ma) (hb : DR C X W b mb) : DC C X W op a b (m2 g ma mb) := by
  obtain ⟨r, hr, k⟩ := o
  obtain ⟨ta, pa, ka⟩ := ha.ex
  obtain ⟨tb, pb, kb⟩ := hb.ex
  refine .of ⟨_, pc_op hr pa pb, fun F0 H0 F H σ S o Q q => ?_⟩
  refine ka _ _ _ _ _ _ o _ (PostV.to (gE Q) q fun x v F1 H1 e1 w1 q1 => ?_)
  refine kb _ _ _ _ _ _ (o.up e1) _ (PostV.to (gE Q) q1 fun y u F2 H2 e2 w2 q2 => ?_)
  exact k F2 H2 x y v u Q e2.fh (w1.up e2) w2 (PostP.of q2)
theorem op_inAll (hu : X.A.units + 65 < cLine) : OpR X (compareOp .In) (rInAll X false) := op_sgn.or (op_in_seq.or (op_inD hu))
theorem op_notInAll (hu : X.A.units + 65 < cLine) : OpR X (compareOp .NotIn) (rInAll X true) := op_sgnN.or (op_notIn_seq.or (op_notInD hu))
def isDct : D → Bool
  | .dct _ => true
  | _ => false
theorem dc_in {ma mb : List Sl → R D} (hu : X.A.units + 65 < cLine) (ha : DR C X W a ma) (hb : DR C X W b mb) : DC C X W .In a b (m2 inD ma mb) := by
  obtain ⟨ta, pa, ka⟩ := ha.ex
  obtain ⟨tb, pb, kb⟩ := hb.ex
  refine .of ⟨_, pc_or2 (pc_op (op_inAll hu) pa pb) (pc_din (by omega) pa pb), fun F0 H0 F H σ S o Q q => ?_⟩
  by_cases c : ∃ es, mb S = .ok (.dct es)
  · obtain ⟨es, hes⟩ := c
    refine .inr (ka _ _ _ _ _ _ o _ (PostV.to (gE Q) q fun x v F1 H1 e1 w1 q1 => ?_))
    refine kb _ _ _ _ _ _ (o.up e1) _ (PostV.toq (gE Q) q1 fun y u F2 H2 ey e2 w2 q2 => ?_)
    rw [hes] at ey
    cases ey
    cases x with
    | int i =>
      have w3 : Vw X.K F2 H2 v (.int i) := w1.up e2
      cases w3.isInt
      obtain ⟨a, kvs, rfl, hd, hk⟩ := w2.isDct e2.fh
      refine ⟨a, _, rfl, .inl ⟨kvs, .inl i, hd, rfl, rfl⟩, ?_⟩
      have es2 : (valV kvs (Sum.inl i : Key)).isSome = (keyD es i).isSome := by
        rcases valV_keyD i hk with ⟨z1, z2⟩ | ⟨_, _, z1, z2, _⟩
        · rw [z1, z2]
          rfl
        · rw [z1, z2]
          rfl
      rw [es2]
      exact Post.here q2 e2.fh (.bl _)
    | _ => exact q2.elim
  · refine .inl (ka _ _ _ _ _ _ o _ (PostV.to (gE Q) q fun x v F1 H1 e1 w1 q1 => ?_))
    refine kb _ _ _ _ _ _ (o.up e1) _ (PostV.toq (gE Q) q1 fun y u F2 H2 ey e2 w2 q2 => ?_)
    refine in_post (neg := false) e2.fh (w1.up e2) w2 (fun es z => c ⟨es, by rw [ey, z]⟩) ?_
    have q3 := PostP.of q2
    cases h : inD x y with
    | ok z => rw [h] at q3; exact q3
    | exc z => trivial
    | bad => rw [h] at q3; exact q3
theorem dc_notIn {ma mb : List Sl → R D} (hu : X.A.units + 65 < cLine) (ha : DR C X W a ma) (hb : DR C X W b mb) : DC C X W .NotIn a b (m2 notInD ma mb) := by
  obtain ⟨ta, pa, ka⟩ := ha.ex
  obtain ⟨tb, pb, kb⟩ := hb.ex
  refine .of ⟨_, pc_or2 (pc_op (op_notInAll hu) pa pb) (pc_dnotin (by omega) pa pb), fun F0 H0 F H σ S o Q q => ?_⟩
  by_cases c : ∃ es, mb S = .ok (.dct es)
  · obtain ⟨es, hes⟩ := c
    refine .inr (ka _ _ _ _ _ _ o _ (PostV.to (gE Q) q fun x v F1 H1 e1 w1 q1 => ?_))
    refine kb _ _ _ _ _ _ (o.up e1) _ (PostV.toq (gE Q) q1 fun y u F2 H2 ey e2 w2 q2 => ?_)
    rw [hes] at ey
    cases ey
    cases x with
    | int i =>
      have w3 : Vw X.K F2 H2 v (.int i) := w1.up e2
      cases w3.isInt
      obtain ⟨a, kvs, rfl, hd, hk⟩ := w2.isDct e2.fh
      refine ⟨a, _, rfl, .inl ⟨kvs, .inl i, hd, rfl, rfl⟩, ?_⟩
      have es2 : (valV kvs (Sum.inl i : Key)).isSome = (keyD es i).isSome := by
        rcases valV_keyD i hk with ⟨z1, z2⟩ | ⟨_, _, z1, z2, _⟩
        · rw [z1, z2]
          rfl
        · rw [z1, z2]
          rfl
      rw [es2]
      exact Post.here (x := .bl (!(keyD es i).isSome)) q2 e2.fh (.bl _)
    | _ => exact q2.elim
  · refine .inl (ka _ _ _ _ _ _ o _ (PostV.to (gE Q) q fun x v F1 H1 e1 w1 q1 => ?_))
    refine kb _ _ _ _ _ _ (o.up e1) _ (PostV.toq (gE Q) q1 fun y u F2 H2 ey e2 w2 q2 => ?_)
    refine in_post (neg := true) e2.fh (w1.up e2) w2 (fun es z => c ⟨es, by rw [ey, z]⟩) ?_
    exact PostP.of q2
theorem de_cmp {op : CmpOp} {m : List Sl → R D} (h : DC C X W op a b m) (h1 : behindInMarks op b = false) : DE C X W (.Compare a [op] [b] pos) m := ⟨pe_cmp h.run h1⟩
def tBl : D → R Bool
  | .bl b => .ok b
  | _ => .bad
theorem dt_cmp {op : CmpOp} {m : List Sl → R D} (h : DC C X W op a b m) (h1 : behindInMarks op b = false) : DT C X W (.Compare a [op] [b] pos) (fun S => (m S).bind tBl) := by
  obtain ⟨t, p, k⟩ := h.ex
  refine .of ⟨_, pt_cmp p h1, fun F0 H0 F H σ S o Q q => ?_⟩
  refine k _ _ _ _ _ _ o _ (Post.to (gT Q) q fun x v F1 H1 e1 r1 q1 => ?_)
  cases x with
  | bl z => cases r1; exact ⟨z, rfl, q1 F1 H1 (Ext.refl e1.fh)⟩
  | _ => exact q1.elim
/-- a op b op' c -/
def m3 (g g' : D → D → R D) (ma mb mc : List Sl → R D) (S : List Sl) : R D :=
  (ma S).bind fun x => (mb S).bind fun y => (g x y).bind fun z => (tBl z).bind fun k => if k = true then (mc S).bind fun w => g' y w else .ok (.bl false)
theorem chain_post {c : Expr} {op op' : CmpOp} {g g' : D → D → R D} {ma mb mc : List Sl → R D} (og : OpD X (compareOp op) g) (og' : OpD X (compareOp op') g') (ha : DR C X W a ma) (hb : DR C X W b mb) (hc : DR C X W c mc) :
    ∃ (r r' : R2) (ta tb tc : TE), OpR X (compareOp op) r ∧ OpR X (compareOp op') r' ∧ PE X a ta ∧ PE X b tb ∧ PE X c tc ∧ ∀ F0 H0 F H σ S, Ok C X.K F0 H0 F H σ S → ∀ Q, Post C X.K W σ F H (m3 g g' ma mb mc S) Q → tChain r r' ta tb tc σ H Q := by
  obtain ⟨r, hr, k⟩ := og
  obtain ⟨r', hr', k'⟩ := og'
  obtain ⟨ta, pa, ka⟩ := ha.ex
  obtain ⟨tb, pb, kb⟩ := hb.ex
  obtain ⟨tc, pc, kc⟩ := hc.ex
  refine ⟨r, r', ta, tb, tc, hr, hr', pa, pb, pc, fun F0 H0 F H σ S o Q q => ?_⟩
  refine ka _ _ _ _ _ _ o _ (PostV.to (gE Q) q fun x v F1 H1 e1 w1 q1 => ?_)
  refine kb _ _ _ _ _ _ (o.up e1) _ (PostV.to (gE Q) q1 fun y u F2 H2 e2 w2 q2 => ?_)
  refine k F2 H2 x y v u _ e2.fh (w1.up e2) w2 (PostP.of (Post.to (gE Q) q2 fun z zv F3 H3 e3 r3 q3 => ?_))
  cases z with
  | bl z =>
    cases r3
    refine ⟨z, rfl, ?_⟩
    cases z with
    | false => exact Post.here q3 e3.fh (.bl _)
    | true =>
      refine kc _ _ _ _ _ _ (((o.up e1).up e2).up e3) _ (PostV.to (gE Q) q3 fun w wv F4 H4 e4 w4 q4 => ?_)
      exact k' F4 H4 y w u wv Q e4.fh ((w2.up e3).up e4) w4 (PostP.of q4)
  | _ => exact q3.elim
theorem de_chain {c : Expr} {op op' : CmpOp} {g g' : D → D → R D} {ma mb mc : List Sl → R D} (og : OpD X (compareOp op) g) (og' : OpD X (compareOp op') g') (ha : DR C X W a ma) (hb : DR C X W b mb) (hc : DR C X W c mc)
    (hm : lastMarks [op, op'] [b, c] = false) : DE C X W (.Compare a [op, op'] [b, c] pos) (m3 g g' ma mb mc) := by
  obtain ⟨r, r', ta, tb, tc, hr, hr', pa, pb, pc, k⟩ := chain_post og og' ha hb hc
  exact .of ⟨_, pe_chain hr hr' pa pb pc hm, k⟩
theorem dt_chain {c : Expr} {op op' : CmpOp} {g g' : D → D → R D} {ma mb mc : List Sl → R D} (og : OpD X (compareOp op) g) (og' : OpD X (compareOp op') g') (ha : DR C X W a ma) (hb : DR C X W b mb) (hc : DR C X W c mc)
    (hm : lastMarks [op, op'] [b, c] = false) : DT C X W (.Compare a [op, op'] [b, c] pos) (fun S => (m3 g g' ma mb mc S).bind tBl) := by
  obtain ⟨r, r', ta, tb, tc, hr, hr', pa, pb, pc, k⟩ := chain_post og og' ha hb hc
  refine .of ⟨_, pt_chain hr hr' pa pb pc hm, fun F0 H0 F H σ S o Q q => ?_⟩
  refine k _ _ _ _ _ _ o _ (Post.to (gT Q) q fun x v F1 H1 e1 r1 q1 => ?_)
  cases x with
  | bl z => cases r1; exact ⟨z, rfl, q1 F1 H1 (Ext.refl e1.fh)⟩
  | _ => exact q1.elim

/-! ### truth, and, or, not -/
def trD : D → R Bool
  | .non => .ok false
  | .bl b => .ok b
  | .int i => .ok (i != 0)
  | .str s => if s.length ≤ sizeLine then .ok ((s.length : Int) != 0) else .bad
  | .lst xs => .ok (!xs.isEmpty)
  | .tup xs => .ok (!xs.isEmpty)
  | .scr ns => .ok (!ns.isEmpty)
  | .dct _ => .bad
theorem isEmpty_rp {K : PySem.W.Frag} {F : Hp} {vs : List V} {ds : List D} (h : RpA K F vs ds) : vs.isEmpty = ds.isEmpty := by cases h <;> rfl
theorem tru_of {K : PySem.W.Frag} {F H : Hp} {x : D} {v : V} {b : Bool} (e : Same F H) (w : Vw K F H v x) (h : trD x = .ok b) : TruV K v H b := by
  cases x with
  | non => cases w.isNon; cases h; rfl
  | bl b => cases w.isBl; cases h; rfl
  | int b => cases w.isInt; cases h; rfl
  | str s =>
    cases w.isStr
    by_cases c : s.length ≤ sizeLine
    · rw [trD, if_pos c] at h
      cases h; exact ⟨c, rfl⟩
    · rw [trD, if_neg c] at h
      cases h
  | lst b => obtain ⟨a, vs, rfl, ha, ra⟩ := w.isLst e; cases h; exact .inl ⟨vs, SqL.of ha, by rw [isEmpty_rp ra]⟩
  | tup b => obtain ⟨a, vs, rfl, ha, ra⟩ := w.isTup; cases h; exact .inr (.inl ⟨vs, SqT.of (e _ _ ha), by rw [isEmpty_rp ra]⟩)
  | scr ns => obtain ⟨a, rfl, ha⟩ := w.isScr e; cases h; exact .inl ⟨_, ha, by cases ns <;> rfl⟩
  | dct b => cases h
theorem trD_exc {x : D} {e : Exn} : trD x ≠ .exc e := by
  intro h
  cases x with
  | str s =>
    by_cases c : s.length ≤ sizeLine
    · rw [trD, if_pos c] at h
      cases h
    · rw [trD, if_neg c] at h
      cases h
  | _ => cases h
/-- a test by its value's truth -/
theorem dt_tru {ma : List Sl → R D} (ha : DR C X W a ma) (he : ∀ whole, isTrue a X.env whole = (do let v ← whole; standAt a.pos; holding [v] (truthy v))) : DT C X W a (fun S => (ma S).bind trD) := by
  obtain ⟨ta, pa, ka⟩ := ha.ex
  refine .of ⟨_, pt_truth pa he, fun F0 H0 F H σ S o Q q => ?_⟩
  refine ka _ _ _ _ _ _ o _ (PostV.to (gT Q) q fun x v F1 H1 e1 w1 q1 => ?_)
  cases h : trD x with
  | ok b => rw [h] at q1; exact ⟨b, tru_of e1.fh w1 h, q1 F1 H1 (Ext.refl e1.fh)⟩
  | exc e => exact absurd h trD_exc
  | bad => rw [h] at q1; exact q1.elim
def tAnd2 (ma mb : List Sl → R Bool) (S : List Sl) : R Bool := (ma S).bind fun c => if c = true then mb S else .ok false
def tOr2 (ma mb : List Sl → R Bool) (S : List Sl) : R Bool := (ma S).bind fun c => if c = true then .ok true else mb S
def tNot1 (ma : List Sl → R Bool) (S : List Sl) : R Bool := (ma S).bind fun c => .ok (!c)
theorem dw_and1 {ma : List Sl → R Bool} (ha : DT C X W a ma) : DW C X W (.BoolOp .And [a] pos) ma := ⟨pw_and1 ha.run⟩
theorem dw_or1 {ma : List Sl → R Bool} (ha : DT C X W a ma) : DW C X W (.BoolOp .Or [a] pos) ma := ⟨pw_or1 ha.run⟩
theorem dw_and {ma mb : List Sl → R Bool} {rest : List Expr} (ha : DT C X W a ma) (hb : DW C X W (.BoolOp .And (b :: rest) pos) mb) : DW C X W (.BoolOp .And (a :: b :: rest) pos) (tAnd2 ma mb) := by
  obtain ⟨ta, pa, ka⟩ := ha.ex
  obtain ⟨tb, pb, kb⟩ := hb.ex
  refine .of ⟨_, pw_and pa pb, fun F0 H0 F H σ S o Q q => ?_⟩
  refine ka _ _ _ _ _ _ o _ (PostT.to (gT Q) q fun c F1 H1 e1 q1 => ?_)
  cases c with
  | true => exact kb _ _ _ _ _ _ (o.up e1) _ q1
  | false => exact q1 F1 H1 (Ext.refl e1.fh)
theorem dw_or {ma mb : List Sl → R Bool} {rest : List Expr} (ha : DT C X W a ma) (hb : DW C X W (.BoolOp .Or (b :: rest) pos) mb) : DW C X W (.BoolOp .Or (a :: b :: rest) pos) (tOr2 ma mb) := by
  obtain ⟨ta, pa, ka⟩ := ha.ex
  obtain ⟨tb, pb, kb⟩ := hb.ex
  refine .of ⟨_, pw_or pa pb, fun F0 H0 F H σ S o Q q => ?_⟩
  refine ka _ _ _ _ _ _ o _ (PostT.to (gT Q) q fun c F1 H1 e1 q1 => ?_)
  cases c with
  | true => exact q1 F1 H1 (Ext.refl e1.fh)
  | false => exact kb _ _ _ _ _ _ (o.up e1) _ q1
theorem dt_w {ma : List Sl → R Bool} (h : DW C X W a ma) : DT C X W a ma := ⟨h.run.pt⟩
theorem dt_not {ma : List Sl → R Bool} (ha : DT C X W a ma) : DT C X W (.UnaryOp .Not a pos) (tNot1 ma) := by
  obtain ⟨ta, pa, ka⟩ := ha.ex
  refine .of ⟨_, pt_not pa, fun F0 H0 F H σ S o Q q => ?_⟩
  exact ka _ _ _ _ _ _ o _ (PostT.to (gT Q) q fun c F1 H1 e1 q1 => q1 F1 H1 (Ext.refl e1.fh))
/-- as values -/
def mAnd2 (ma mb : List Sl → R D) (S : List Sl) : R D := (ma S).bind fun x => (trD x).bind fun c => if c = true then mb S else .ok x
def mOr2 (ma mb : List Sl → R D) (S : List Sl) : R D := (ma S).bind fun x => (trD x).bind fun c => if c = true then .ok x else mb S
theorem de_one {op} {ma : List Sl → R D} (ha : DE C X W a ma) : DE C X W (.BoolOp op [a] pos) ma := ⟨pe_one ha.run⟩
theorem de_and {ma mb : List Sl → R D} {rest : List Expr} (ha : DE C X W a ma) (hb : DE C X W (.BoolOp .And (b :: rest) pos) mb) : DE C X W (.BoolOp .And (a :: b :: rest) pos) (mAnd2 ma mb) := by
  obtain ⟨ta, pa, ka⟩ := ha.ex
  obtain ⟨tb, pb, kb⟩ := hb.ex
  refine .of ⟨_, pe_andT pa pb, fun F0 H0 F H σ S o Q q => ?_⟩
  refine ka _ _ _ _ _ _ o _ (Post.to (gE Q) q fun x v F1 H1 e1 r1 q1 => ?_)
  cases h : trD x with
  | ok c =>
    rw [h] at q1
    refine ⟨c, tru_of e1.fh (.of r1) h, ?_⟩
    cases c with
    | true => exact kb _ _ _ _ _ _ (o.up e1) _ q1
    | false => exact Post.here q1 e1.fh r1
  | exc e => exact absurd h trD_exc
  | bad => rw [h] at q1; exact q1.elim
theorem de_or {ma mb : List Sl → R D} {rest : List Expr} (ha : DE C X W a ma) (hb : DE C X W (.BoolOp .Or (b :: rest) pos) mb) : DE C X W (.BoolOp .Or (a :: b :: rest) pos) (mOr2 ma mb) := by
  obtain ⟨ta, pa, ka⟩ := ha.ex
  obtain ⟨tb, pb, kb⟩ := hb.ex
  refine .of ⟨_, pe_orT pa pb, fun F0 H0 F H σ S o Q q => ?_⟩
  refine ka _ _ _ _ _ _ o _ (Post.to (gE Q) q fun x v F1 H1 e1 r1 q1 => ?_)
  cases h : trD x with
  | ok c =>
    rw [h] at q1
    refine ⟨c, tru_of e1.fh (.of r1) h, ?_⟩
    cases c with
    | true => exact Post.here q1 e1.fh r1
    | false => exact kb _ _ _ _ _ _ (o.up e1) _ q1
  | exc e => exact absurd h trD_exc
  | bad => rw [h] at q1; exact q1.elim
def mNot (ma : List Sl → R D) (S : List Sl) : R D := (ma S).bind fun x => (trD x).bind fun c => .ok (.bl (!c))
theorem de_not {ma : List Sl → R D} (ha : DR C X W a ma) : DE C X W (.UnaryOp .Not a pos) (mNot ma) := by
  obtain ⟨ta, pa, ka⟩ := ha.ex
  refine .of ⟨_, pe_notT pa, fun F0 H0 F H σ S o Q q => ?_⟩
  refine ka _ _ _ _ _ _ o _ (PostV.to (gE Q) q fun x v F1 H1 e1 w1 q1 => ?_)
  cases h : trD x with
  | ok c => rw [h] at q1; exact ⟨c, tru_of e1.fh w1 h, Post.here q1 e1.fh (.bl _)⟩
  | exc e => exact absurd h trD_exc
  | bad => rw [h] at q1; exact q1.elim
def mIf (mt : List Sl → R Bool) (ma mb : List Sl → R D) (S : List Sl) : R D := (mt S).bind fun c => if c = true then ma S else mb S
theorem de_if {c : Expr} {mt : List Sl → R Bool} {ma mb : List Sl → R D} (hc : DT C X W c mt) (ha : DE C X W a ma) (hb : DE C X W b mb) : DE C X W (.IfExp c a b pos) (mIf mt ma mb) := by
  obtain ⟨tt, pt, kt⟩ := hc.ex
  obtain ⟨ta, pa, ka⟩ := ha.ex
  obtain ⟨tb, pb, kb⟩ := hb.ex
  refine .of ⟨_, pe_ifExp pt pa pb, fun F0 H0 F H σ S o Q q => ?_⟩
  refine kt _ _ _ _ _ _ o _ (PostT.to (gE Q) q fun c F1 H1 e1 q1 => ?_)
  cases c with
  | true => exact ka _ _ _ _ _ _ (o.up e1) _ q1
  | false => exact kb _ _ _ _ _ _ (o.up e1) _ q1

/-! ### arguments, displays -/
def aNil (_ : List Sl) : R (List D) := .ok []
def aCons (ma : List Sl → R D) (mr : List Sl → R (List D)) (S : List Sl) : R (List D) := (ma S).bind fun x => (mr S).bind fun xs => .ok (x :: xs)
theorem da_nil : DA C X W [] aNil := .of ⟨_, pa_nil, fun F0 H0 F H σ S o Q q => q [] F H (Ext.refl o.sub) .nil⟩
theorem dar_nil : DAR C X W [] aNil := .of ⟨_, pa_nil, fun F0 H0 F H σ S o Q q => q [] F H (Ext.refl o.sub) .nil⟩
theorem da_cons {ma : List Sl → R D} {mr : List Sl → R (List D)} (ha : DR C X W e ma) (hr : DA C X W es mr) (hs : starEach (e :: es) X.env = (false, eval e X.env) :: starEach es X.env := by rfl) : DA C X W (e :: es) (aCons ma mr) := by
  obtain ⟨ta, pa, ka⟩ := ha.ex
  obtain ⟨tb, pb, kb⟩ := hr.ex
  refine .of ⟨_, pa_cons pa pb hs, fun F0 H0 F H σ S o Q q => ?_⟩
  refine ka _ _ _ _ _ _ o _ (PostV.to (gA Q) q fun x v F1 H1 e1 w1 q1 => ?_)
  refine kb _ _ _ _ _ _ (o.up e1) _ (PostA.to (gA Q) q1 fun xs vs F2 H2 e2 w2 q2 => ?_)
  exact q2 _ F2 H2 (Ext.refl e2.fh) (.cons (w1.up e2) w2)
theorem dar_cons {ma : List Sl → R D} {mr : List Sl → R (List D)} (ha : DE C X W e ma) (hr : DAR C X W es mr) (hs : starEach (e :: es) X.env = (false, eval e X.env) :: starEach es X.env := by rfl) : DAR C X W (e :: es) (aCons ma mr) := by
  obtain ⟨ta, pa, ka⟩ := ha.ex
  obtain ⟨tb, pb, kb⟩ := hr.ex
  refine .of ⟨_, pa_cons pa pb hs, fun F0 H0 F H σ S o Q q => ?_⟩
  refine ka _ _ _ _ _ _ o _ (Post.to (gAR Q) q fun x v F1 H1 e1 w1 q1 => ?_)
  refine kb _ _ _ _ _ _ (o.up e1) _ (PostAR.to (gAR Q) q1 fun xs vs F2 H2 e2 w2 q2 => ?_)
  exact q2 _ F2 H2 (Ext.refl e2.fh) (.cons (w1.up e2.ff) w2)
def lim (ds : List D) : R (List D) := if ds.length ≤ sizeLine then .ok ds else .bad
theorem lim_ok {ds es : List D} (h : lim ds = .ok es) : es = ds ∧ ds.length ≤ sizeLine := by
  unfold lim at h
  split at h
  · cases h; exact ⟨rfl, by assumption⟩
  · cases h
def aLim (ma : List Sl → R (List D)) (S : List Sl) : R (List D) := (ma S).bind lim
theorem dn_lst {ma : List Sl → R (List D)} (ha : DAR C X W es ma) : DN C X W (.List es pos) (aLim ma) := by
  obtain ⟨ta, pa, ka⟩ := ha.ex
  refine .of ⟨_, pe_lst pa, fun F0 H0 F H σ S o Q q => ?_⟩
  refine ka _ _ _ _ _ _ o _ (PostAR.to (gN Q) q fun xs vs F1 H1 e1 r1 q1 => ?_)
  by_cases c : xs.length ≤ sizeLine
  · unfold lim at q1
    rw [if_pos c] at q1
    exact ⟨by rw [r1.len]; exact c, fun p hp => q1 p vs F1 _ (Ext.newO e1.fh hp) hp (none_of e1.fh hp) upd_same r1⟩
  · unfold lim at q1
    rw [if_neg c] at q1
    exact q1.elim
theorem de_tup {k : Nat} {ma : List Sl → R (List D)} (ha : DAR C X W es ma) : DE C X W (.Tuple es k pos) (fun S => (aLim ma S).bind fun ds => .ok (.tup ds)) := by
  obtain ⟨ta, pa, ka⟩ := ha.ex
  refine .of ⟨_, pe_tup pa, fun F0 H0 F H σ S o Q q => ?_⟩
  have q' : Post C X.K W σ F H ((ma S).bind fun xs => (lim xs).bind fun ds => .ok (.tup ds)) Q := by
    unfold aLim at q
    cases h : ma S <;> rw [h] at q <;> exact q
  refine ka _ _ _ _ _ _ o _ (PostAR.to (gE Q) q' fun xs vs F1 H1 e1 r1 q1 => ?_)
  by_cases c : xs.length ≤ sizeLine
  · unfold lim at q1
    rw [if_pos c] at q1
    refine ⟨by rw [r1.len]; exact c, fun p hp => ?_⟩
    exact q1 _ _ _ (Ext.new e1.fh hp) (.tup upd_same (r1.up (same_new (none_of e1.fh hp))))
  · unfold lim at q1
    rw [if_neg c] at q1
    exact q1.elim
end
end DL
/-! The data layer, part D: built-in calls, methods, subscripts, slices. -/
namespace DL
open PySem L2

def CallD (X : Cx) (f : Value) (g : List D → R D) : Prop :=
  ∃ r : List V → Hp → VK → Prop, CallR X f r ∧ ∀ F H xs vs Q, Same F H → VwA X.K F H vs xs → PostP X.K F H (g xs) Q → r vs H Q
def PostPN (K : PySem.W.Frag) (F H : Hp) (r : R (List D)) (Q : VK) : Prop := match r with
  | .ok ds => ∀ p vs F' H', Ext F H F' H' → H p = none → F' p = none → H' p = some (.lst vs) → RpA K F' vs ds → Q (.ref p) H'
  | .exc _ => True
  | .bad => False
def CallN (X : Cx) (f : Value) (g : List D → R (List D)) : Prop :=
  ∃ r : List V → Hp → VK → Prop, CallR X f r ∧ ∀ F H xs vs Q, Same F H → VwA X.K F H vs xs → PostPN X.K F H (g xs) Q → r vs H Q
theorem PostPN.of {C : CL} {K : PySem.W.Frag} {W : WX} {σ : St} {F H : Hp} {r : R (List D)} {Q : VK} (h : PostN C K W σ F H r Q) : PostPN K F H r Q := by
  cases r with
  | ok x => exact h
  | exc x => trivial
  | bad => exact h
theorem PostPN.here {K : PySem.W.Frag} {F H : Hp} {ds : List D} {vs : List V} {Q : VK} (h : PostPN K F H (.ok ds) Q) (e : Same F H) (r : RpA K F vs ds) {p : Addr} (hp : H p = none) : Q (.ref p) (upd H p (.lst vs)) :=
  h p vs F _ (Ext.newO e hp) hp (none_of e hp) upd_same r
theorem VwA.c1 {K : PySem.W.Frag} {F H : Hp} {vs : List V} {x : D} (h : VwA K F H vs [x]) : ∃ v, vs = [v] ∧ Vw K F H v x := by
  cases h with
  | cons h1 h2 => cases h2; exact ⟨_, rfl, h1⟩
theorem VwA.c2 {K : PySem.W.Frag} {F H : Hp} {vs : List V} {x y : D} (h : VwA K F H vs [x, y]) : ∃ v u, vs = [v, u] ∧ Vw K F H v x ∧ Vw K F H u y := by
  cases h with
  | cons h1 h2 =>
    cases h2 with
    | cons h2 h3 => cases h3; exact ⟨_, _, rfl, h1, h2⟩
def on1 (g : D → R D) : List D → R D
  | [x] => g x
  | _ => .bad
def on2 (g : D → D → R D) : List D → R D
  | [x, y] => g x y
  | _ => .bad
def onN (g : D → R (List D)) : List D → R (List D)
  | [x] => g x
  | _ => .bad
section
variable {X : Cx}
theorem CallD.one {f : Value} {g : D → R D} (h : ∃ r : List V → Hp → VK → Prop, CallR X f r ∧ ∀ F H x v Q, Same F H → Vw X.K F H v x → PostP X.K F H (g x) Q → r [v] H Q) : CallD X f (on1 g) := by
  obtain ⟨r, hr, k⟩ := h
  refine ⟨r, hr, fun F H xs vs Q e w q => ?_⟩
  match xs, w, q with
  | [x], w, q => obtain ⟨v, ev, w1⟩ := w.c1; subst ev; exact k F H x v Q e w1 q
  | [], _, q => exact q.elim
  | _ :: _ :: _, _, q => exact q.elim
theorem CallD.two {f : Value} {g : D → D → R D} (h : ∃ r : List V → Hp → VK → Prop, CallR X f r ∧ ∀ F H x y v u Q, Same F H → Vw X.K F H v x → Vw X.K F H u y → PostP X.K F H (g x y) Q → r [v, u] H Q) : CallD X f (on2 g) := by
  obtain ⟨r, hr, k⟩ := h
  refine ⟨r, hr, fun F H xs vs Q e w q => ?_⟩
  match xs, w, q with
  | [x, y], w, q => obtain ⟨v, u, rfl, w1, w2⟩ := w.c2; exact k F H x y v u Q e w1 w2 q
  | [], _, q => exact q.elim
  | [_], _, q => exact q.elim
  | _ :: _ :: _ :: _, _, q => exact q.elim
theorem CallN.one {f : Value} {g : D → R (List D)} (h : ∃ r : List V → Hp → VK → Prop, CallR X f r ∧ ∀ F H x v Q, Same F H → Vw X.K F H v x → PostPN X.K F H (g x) Q → r [v] H Q) : CallN X f (onN g) := by
  obtain ⟨r, hr, k⟩ := h
  refine ⟨r, hr, fun F H xs vs Q e w q => ?_⟩
  match xs, w, q with
  | [x], w, q => obtain ⟨v, ev, w1⟩ := w.c1; subst ev; exact k F H x v Q e w1 q
  | [], _, q => exact q.elim
  | _ :: _ :: _, _, q => exact q.elim
end

/-! ### len, abs, str, int -/
def lenD : D → R D
  | .str s => if s.length ≤ sizeLine then .ok (.int s.length) else .bad
  | .lst xs => .ok (.int xs.length)
  | .tup xs => .ok (.int xs.length)
  | .scr ns => .ok (.int ns.length)
  | .dct es => .ok (.int es.length)
  | _ => .bad
def absD : D → R D
  | .int i => .ok (.int (if i < 0 then -i else i))
  | _ => .bad
def strD : D → R D
  | .int i => if i.natAbs.log2 < 1920 then .ok (.str (toString i)) else .bad
  | _ => .bad
def intD : D → R D
  | .int i => .ok (.int i)
  | .bl b => .ok (.int (if b then 1 else 0))
  | .str s => match PySem.intText? s with
    | some n => if s.length ≤ 640 then .ok (.int n) else .bad
    | none => .bad
  | _ => .bad
theorem RpK.len {K : PySem.W.Frag} {F : Hp} : ∀ {vs : List (Key × V)} {ds : List (Int × D)}, RpK K F vs ds → vs.length = ds.length
  | [], _, h => by cases h; rfl
  | v :: vs, _, h => by
    cases h with
    | cons h1 h2 => simp [RpK.len h2]
section
variable {X : Cx}
theorem call_lenR : CallR X (.builtin "len") (fun xs H Q => ∃ a kvs, xs = [V.ref a] ∧ Rd H a (.dK kvs) ∧ Q (.int kvs.length) H) := by
  intro pins s σ H xs us Q I r h
  obtain ⟨a, kvs, rfl, ha, q⟩ := h
  obtain ⟨u, rfl, ru⟩ := vals1 r
  cases ru
  exact d_len I ha fun t s' I' => ⟨.int kvs.length, H, I', ⟨t, rfl⟩, q⟩
theorem cd_len : CallD X (.builtin "len") (on1 lenD) := .one ⟨_, call_len.or call_lenR, fun F H x v Q e w q => by
  cases x with
  | str s =>
    cases w.isStr
    by_cases c : s.length ≤ sizeLine
    · rw [lenD, if_pos c] at q
      exact .inl ⟨_, _, rfl, ⟨c, rfl⟩, q.here e (.int _)⟩
    · rw [lenD, if_neg c] at q; exact q.elim
  | lst xs => obtain ⟨a, vs, rfl, ha, ra⟩ := w.isLst e; exact .inl ⟨_, _, rfl, .inl ⟨vs, SqL.of ha, ra.len.symm⟩, q.here e (.int _)⟩
  | tup xs => obtain ⟨a, vs, rfl, ha, ra⟩ := w.isTup; exact .inl ⟨_, _, rfl, .inr ⟨vs, SqT.of (e _ _ ha), ra.len.symm⟩, q.here e (.int _)⟩
  | scr ns => obtain ⟨a, rfl, ha⟩ := w.isScr e; exact .inl ⟨_, _, rfl, .inl ⟨_, ha, by simp⟩, q.here e (.int _)⟩
  | dct es => obtain ⟨a, vs, rfl, ha, ra⟩ := w.isDct e; exact .inr ⟨a, vs, rfl, ha, by rw [ra.len]; exact q.here e (.int _)⟩
  | _ => exact q.elim⟩
theorem cd_abs : CallD X (.builtin "abs") (on1 absD) := .one ⟨_, call_abs, fun F H x v Q e w q => by
  cases x with
  | int i => cases w.isInt; exact ⟨i, rfl, q.here e (.int _)⟩
  | _ => exact q.elim⟩
theorem cd_str : CallD X (.type "str") (on1 strD) := .one ⟨_, call_str_int, fun F H x v Q e w q => by
  cases x with
  | int i =>
    cases w.isInt
    by_cases c : i.natAbs.log2 < 1920
    · rw [strD, if_pos c] at q
      exact ⟨i, rfl, c, q.here e (.str _)⟩
    · rw [strD, if_neg c] at q; exact q.elim
  | _ => exact q.elim⟩
theorem cd_int : CallD X (.type "int") (on1 intD) := .one ⟨_, call_int1.or call_int_str, fun F H x v Q e w q => by
  cases x with
  | int i => cases w.isInt; exact .inl (.inl ⟨i, rfl, q.here e (.int _)⟩)
  | bl b => cases w.isBl; exact .inl (.inr ⟨b, rfl, q.here e (.int _)⟩)
  | str s =>
    cases w.isStr
    cases h : PySem.intText? s with
    | none => simp only [intD, h] at q; exact q.elim
    | some n =>
      simp only [intD, h] at q
      by_cases c : s.length ≤ 640
      · rw [if_pos c] at q
        exact .inr ⟨s, n, rfl, h, c, q.here e (.int _)⟩
      · rw [if_neg c] at q; exact q.elim
  | _ => exact q.elim⟩
def maxD : D → D → R D
  | .int i, .int j => .ok (.int (if j > i then j else i))
  | _, _ => .bad
theorem cd_max (hc : X.calm = true) : CallD X (.builtin "max") (on2 maxD) := .two ⟨_, call_max2 hc, fun F H x y v u Q e w1 w2 q => by
  cases x with
  | int i =>
    cases y with
    | int j => cases w1.isInt; cases w2.isInt; exact ⟨i, j, rfl, q.here e (.int _)⟩
    | _ => exact q.elim
  | _ => exact q.elim⟩

/-! ### any, all -/
def bool? : D → Option Bool
  | .bl b => some b
  | _ => none
def boolsD : List D → Option (List Bool)
  | [] => some []
  | d :: ds => match bool? d, boolsD ds with
    | some b, some bs => some (b :: bs)
    | _, _ => none
def anyD : D → R D
  | .lst ds => match boolsD ds with
    | some bs => .ok (.bl (bs.any id))
    | none => .bad
  | _ => .bad
def allD : D → R D
  | .lst ds => match boolsD ds with
    | some bs => .ok (.bl (bs.all id))
    | none => .bad
  | _ => .bad
theorem bools_rp {K : PySem.W.Frag} {F : Hp} : ∀ {ds : List D} {vs : List V} {bs : List Bool}, RpA K F vs ds → boolsD ds = some bs → vs = bs.map V.bl
  | [], _, bs, h, e => by cases h; cases e; rfl
  | d :: ds, _, bs, h, e => by
    cases h with
    | cons h1 h2 =>
      cases d with
      | bl b =>
        cases h3 : boolsD ds with
        | none => simp [boolsD, bool?, h3] at e
        | some cs =>
          simp [boolsD, bool?, h3] at e
          subst e
          cases h1
          rw [bools_rp h2 h3]
          rfl
      | _ => simp [boolsD, bool?] at e
theorem cd_any (hc : X.calm = true) : CallD X (.builtin "any") (on1 anyD) := .one ⟨_, cr_any hc, fun F H x v Q e w q => by
  cases x with
  | lst ds =>
    obtain ⟨a, vs, rfl, ha, ra⟩ := w.isLst e
    cases h : boolsD ds with
    | none => simp only [anyD, h] at q; exact q.elim
    | some bs =>
      simp only [anyD, h] at q
      have ev := bools_rp ra h
      subst ev
      exact ⟨a, bs, rfl, SqL.of ha, q.here e (.bl _)⟩
  | _ => exact q.elim⟩
theorem cd_all (hc : X.calm = true) : CallD X (.builtin "all") (on1 allD) := .one ⟨_, cr_all hc, fun F H x v Q e w q => by
  cases x with
  | lst ds =>
    obtain ⟨a, vs, rfl, ha, ra⟩ := w.isLst e
    cases h : boolsD ds with
    | none => simp only [allD, h] at q; exact q.elim
    | some bs =>
      simp only [allD, h] at q
      have ev := bools_rp ra h
      subst ev
      exact ⟨a, bs, rfl, SqL.of ha, q.here e (.bl _)⟩
  | _ => exact q.elim⟩

/-! ### tuple, list, sorted -/
def tupD : D → R D
  | .lst ds => .ok (.tup ds)
  | .tup ds => .ok (.tup ds)
  | _ => .bad
theorem cd_tup : CallD X (.type "tuple") (on1 tupD) := .one ⟨_, call_tuple_of, fun F H x v Q e w q => by
  cases x with
  | lst ds => obtain ⟨a, vs, rfl, ha, ra⟩ := w.isLst e; exact ⟨a, vs, rfl, .inl ⟨SqL.of ha, fun l hl => q.newT e ra hl⟩⟩
  | tup ds => obtain ⟨a, vs, rfl, ha, ra⟩ := w.isTup; exact ⟨a, vs, rfl, .inr ⟨SqT.of (e _ _ ha), q.here e (.tup ha ra)⟩⟩
  | _ => exact q.elim⟩
def lstD : D → R (List D)
  | .lst ds => .ok ds
  | .tup ds => .ok ds
  | _ => .bad
theorem cn_lst : CallN X (.type "list") (onN lstD) := .one ⟨_, call_list_of, fun F H x v Q e w q => by
  cases x with
  | lst ds => obtain ⟨a, vs, rfl, ha, ra⟩ := w.isLst e; exact ⟨a, vs, rfl, .inl (SqL.of ha), fun l hl => q.here e ra hl⟩
  | tup ds => obtain ⟨a, vs, rfl, ha, ra⟩ := w.isTup; exact ⟨a, vs, rfl, .inr (SqT.of (e _ _ ha)), fun l hl => q.here e ra hl⟩
  | _ => exact q.elim⟩
def ins (x : Int) : List Int → List Int
  | [] => [x]
  | y :: ys => if x ≤ y then x :: y :: ys else y :: ins x ys
def srt : List Int → List Int
  | [] => []
  | x :: xs => ins x (srt xs)
theorem ins_perm (x : Int) : ∀ l : List Int, (ins x l).Perm (x :: l)
  | [] => List.Perm.refl _
  | y :: ys => by
    unfold ins
    split
    · exact List.Perm.refl _
    · exact ((ins_perm x ys).cons y).trans (List.Perm.swap x y ys)
theorem srt_perm : ∀ l : List Int, (srt l).Perm l
  | [] => List.Perm.refl _
  | x :: xs => (ins_perm x (srt xs)).trans ((srt_perm xs).cons x)
theorem ins_pair (x : Int) : ∀ l : List Int, l.Pairwise (· ≤ ·) → (ins x l).Pairwise (· ≤ ·)
  | [], _ => List.pairwise_singleton _ _
  | y :: ys, h => by
    obtain ⟨h1, h2⟩ := List.pairwise_cons.mp h
    unfold ins
    split
    · rename_i c
      refine List.pairwise_cons.mpr ⟨fun z hz => ?_, h⟩
      rcases List.mem_cons.mp hz with e | e
      · subst e; exact c
      · exact Int.le_trans c (h1 z e)
    · rename_i c
      refine List.pairwise_cons.mpr ⟨fun z hz => ?_, ins_pair x ys h2⟩
      rcases List.mem_cons.mp ((ins_perm x ys).mem_iff.mp hz) with e | e
      · subst e; omega
      · exact h1 z e
theorem srt_pair : ∀ l : List Int, (srt l).Pairwise (· ≤ ·)
  | [] => List.Pairwise.nil
  | x :: xs => ins_pair x _ (srt_pair xs)
theorem srt_uniq {l m : List Int} (h : m.Perm l) (s : m.Pairwise (· ≤ ·)) : m = srt l :=
  List.Perm.eq_of_pairwise (fun _ _ _ _ h1 h2 => Int.le_antisymm h1 h2) s (srt_pair l) (h.trans (srt_perm l).symm)
def int? : D → Option Int
  | .int i => some i
  | _ => none
def intsD : List D → Option (List Int)
  | [] => some []
  | d :: ds => match int? d, intsD ds with
    | some b, some bs => some (b :: bs)
    | _, _ => none
theorem ints_rp {K : PySem.W.Frag} {F : Hp} : ∀ {ds : List D} {vs : List V} {bs : List Int}, RpA K F vs ds → intsD ds = some bs → vs = bs.map V.int
  | [], _, bs, h, e => by cases h; cases e; rfl
  | d :: ds, _, bs, h, e => by
    cases h with
    | cons h1 h2 =>
      cases d with
      | int b =>
        cases h3 : intsD ds with
        | none => simp [intsD, int?, h3] at e
        | some cs =>
          simp [intsD, int?, h3] at e
          subst e
          cases h1
          rw [ints_rp h2 h3]
          rfl
      | _ => simp [intsD, int?] at e
theorem rp_ints {K : PySem.W.Frag} {F : Hp} : ∀ bs : List Int, RpA K F (bs.map V.int) (bs.map D.int)
  | [] => .nil
  | b :: bs => .cons (.int b) (rp_ints bs)
theorem keys_rp {K : PySem.W.Frag} {F : Hp} : ∀ {vs : List (Key × V)} {ds : List (Int × D)}, RpK K F vs ds → vs.map (·.1) = (ds.map (·.1)).map Sum.inl
  | [], _, h => by cases h; rfl
  | v :: vs, _, h => by
    cases h with
    | cons h1 h2 => simp [keys_rp h2]
def sortedD : D → R (List D)
  | .lst ds => match intsD ds with
    | some ns => .ok ((srt ns).map D.int)
    | none => .bad
  | .dct es => if es.length < 64 then .ok ((srt (es.map (·.1))).map D.int) else .bad
  | _ => .bad
theorem cn_sorted (hc : X.calm = true) : CallN X (.builtin "sorted") (onN sortedD) := .one ⟨_, cr_sortedI.or (call_sortedDI hc), fun F H x v Q e w q => by
  cases x with
  | lst ds =>
    obtain ⟨a, vs, rfl, ha, ra⟩ := w.isLst e
    cases h : intsD ds with
    | none => simp only [sortedD, h] at q; exact q.elim
    | some ns =>
      simp only [sortedD, h] at q
      have ev := ints_rp ra h
      subst ev
      refine .inl ⟨a, ns, rfl, SqL.of ha, fun ns' p hp hs hn => ?_⟩
      rw [srt_uniq hp hs]
      exact q.here e (rp_ints _) hn
  | dct es =>
    obtain ⟨a, vs, rfl, ha, ra⟩ := w.isDct e
    by_cases c : es.length < 64
    · rw [sortedD, if_pos c] at q
      refine .inr ⟨a, vs, es.map (·.1), rfl, ha, keys_rp ra, by simpa using c, fun ns' p hp hs hn => ?_⟩
      rw [srt_uniq hp hs]
      exact q.here e (rp_ints _) hn
    · rw [sortedD, if_neg c] at q; exact q.elim
  | _ => exact q.elim⟩
end

/-! ### the calls -/
section
variable {C : CL} {X : Cx} {W : WX} {e a b : Expr} {pos p apos : Pos} {es : List Expr} {x : Str}
theorem de_callB {id : String} {g : List D → R D} {m : List Sl → R (List D)} (hc : CallD X (.builtin id) g) (hg : Gl X x) (hm : X.mg x = none) (hv : bootBuiltins x = some (.builtin id)) (ha : DA C X W (e :: es) m) (hn : x ≠ "__name__" := by decide) (hdb : (x == ("__debug__" : Str)) = false := by decide)
    (he : starEach (e :: es) X.env = (false, eval e X.env) :: starEach es X.env := by rfl) (hpl : (backTo pos (starEach es X.env)).any (·.1) = false := by rfl) : DE C X W (.Call (.Name x p) (e :: es) [] pos) (fun S => (m S).bind g) := by
  obtain ⟨r, hr, k⟩ := hc
  obtain ⟨ta, pa, ka⟩ := ha.ex
  refine .of ⟨_, pe_callB hr hg hm hv pa hn hdb he hpl, fun F0 H0 F H σ S o Q q => ?_⟩
  refine ka _ _ _ _ _ _ o _ (PostA.to (gE Q) q fun xs vs F1 H1 e1 w1 q1 => ?_)
  exact k F1 H1 xs vs Q e1.fh w1 (PostP.of q1)
theorem de_callT {T : String} {g : List D → R D} {m : List Sl → R (List D)} (hc : CallD X (.type T) g) (hg : Gl X x) (hm : X.mg x = none) (hv : bootBuiltins x = some (.type T)) (ha : DA C X W (e :: es) m) (hn : x ≠ "__name__" := by decide) (hdb : (x == ("__debug__" : Str)) = false := by decide)
    (he : starEach (e :: es) X.env = (false, eval e X.env) :: starEach es X.env := by rfl) (hpl : (backTo pos (starEach es X.env)).any (·.1) = false := by rfl) : DE C X W (.Call (.Name x p) (e :: es) [] pos) (fun S => (m S).bind g) := by
  obtain ⟨r, hr, k⟩ := hc
  obtain ⟨ta, pa, ka⟩ := ha.ex
  refine .of ⟨_, pe_callTy hr hg hm hv pa hn hdb he hpl, fun F0 H0 F H σ S o Q q => ?_⟩
  refine ka _ _ _ _ _ _ o _ (PostA.to (gE Q) q fun xs vs F1 H1 e1 w1 q1 => ?_)
  exact k F1 H1 xs vs Q e1.fh w1 (PostP.of q1)
theorem dn_callB {id : String} {g : List D → R (List D)} {m : List Sl → R (List D)} (hc : CallN X (.builtin id) g) (hg : Gl X x) (hm : X.mg x = none) (hv : bootBuiltins x = some (.builtin id)) (ha : DA C X W (e :: es) m) (hn : x ≠ "__name__" := by decide) (hdb : (x == ("__debug__" : Str)) = false := by decide)
    (he : starEach (e :: es) X.env = (false, eval e X.env) :: starEach es X.env := by rfl) (hpl : (backTo pos (starEach es X.env)).any (·.1) = false := by rfl) : DN C X W (.Call (.Name x p) (e :: es) [] pos) (fun S => (m S).bind g) := by
  obtain ⟨r, hr, k⟩ := hc
  obtain ⟨ta, pa, ka⟩ := ha.ex
  refine .of ⟨_, pe_callB hr hg hm hv pa hn hdb he hpl, fun F0 H0 F H σ S o Q q => ?_⟩
  refine ka _ _ _ _ _ _ o _ (PostA.to (gN Q) q fun xs vs F1 H1 e1 w1 q1 => ?_)
  exact k F1 H1 xs vs Q e1.fh w1 (PostPN.of q1)
theorem dn_callT {T : String} {g : List D → R (List D)} {m : List Sl → R (List D)} (hc : CallN X (.type T) g) (hg : Gl X x) (hm : X.mg x = none) (hv : bootBuiltins x = some (.type T)) (ha : DA C X W (e :: es) m) (hn : x ≠ "__name__" := by decide) (hdb : (x == ("__debug__" : Str)) = false := by decide)
    (he : starEach (e :: es) X.env = (false, eval e X.env) :: starEach es X.env := by rfl) (hpl : (backTo pos (starEach es X.env)).any (·.1) = false := by rfl) : DN C X W (.Call (.Name x p) (e :: es) [] pos) (fun S => (m S).bind g) := by
  obtain ⟨r, hr, k⟩ := hc
  obtain ⟨ta, pa, ka⟩ := ha.ex
  refine .of ⟨_, pe_callTy hr hg hm hv pa hn hdb he hpl, fun F0 H0 F H σ S o Q q => ?_⟩
  refine ka _ _ _ _ _ _ o _ (PostA.to (gN Q) q fun xs vs F1 H1 e1 w1 q1 => ?_)
  exact k F1 H1 xs vs Q e1.fh w1 (PostPN.of q1)

/-! ### isinstance(e, T) -/
def tyN : D → String
  | .non => "NoneType"
  | .bl _ => "bool"
  | .int _ => "int"
  | .str _ => "str"
  | .lst _ => "list"
  | .tup _ => "tuple"
  | .dct _ => "dict"
  | .scr _ => "list"
def isiD (T : String) (x : D) : R D := match x with
  | .scr _ => .bad
  | _ => match kitB (tyN x) T with
    | some b => .ok (.bl b)
    | none => .bad
theorem ty_of {K : PySem.W.Frag} {F H : Hp} {v : V} {x : D} (e : Same F H) (w : Vw K F H v x) (hs : ∀ ns, x ≠ .scr ns) : TyX K H v (.type (tyN x)) := by
  cases x with
  | non => cases w.isNon; exact .base .non
  | bl b => cases w.isBl; exact .base (.bl b)
  | int b => cases w.isInt; exact .base (.int b)
  | str b => cases w.isStr; exact .base (.str b)
  | lst b => obtain ⟨a, vs, rfl, ha, ra⟩ := w.isLst e; exact .base (.lst ha)
  | tup b => obtain ⟨a, vs, rfl, ha, ra⟩ := w.isTup; exact .base (.tup (e _ _ ha))
  | dct b =>
    obtain ⟨a, vs, rfl, ha, ra⟩ := w.isDct e
    rcases ha with ha | ⟨o, ha⟩
    · exact .base (.dK ha)
    · exact .fDict ha
  | scr ns => exact absurd rfl (hs ns)
theorem de_isi {T : Str} {Tn : String} {pT : Pos} {ma : List Sl → R D} (hg : Gl X "isinstance") (hm : X.mg "isinstance" = none) (gT : Gl X T) (mT : X.mg T = none) (bT : bootBuiltins T = some (.type Tn)) (ha : DR C X W e ma)
    (hT : T ≠ "__name__" := by decide) (hd : (T == ("__debug__" : Str)) = false := by decide) (h1 : starEach (e :: [.Name T pT]) X.env = (false, eval e X.env) :: starEach [.Name T pT] X.env := by rfl)
    (h2 : starEach ((.Name T pT) :: []) X.env = (false, eval (.Name T pT) X.env) :: starEach [] X.env := by rfl) (hpl : (backTo pos (starEach [.Name T pT] X.env)).any (·.1) = false := by rfl) :
    DE C X W (.Call (.Name "isinstance" p) [e, .Name T pT] [] pos) (fun S => (ma S).bind (isiD Tn)) := by
  obtain ⟨ta, pa, ka⟩ := ha.ex
  refine .of ⟨_, pe_callB call_isi hg hm PyProof.Rows.boot_isinstance (pa_cons pa (pa_cons (pe_bltn (v := .ty Tn) gT mT bT rfl hT hd) pa_nil h2) h1) (by decide) (by decide) h1 hpl, fun F0 H0 F H σ S o Q q => ?_⟩
  refine ka _ _ _ _ _ _ o _ (PostV.to (gE Q) q fun x v F1 H1 e1 w1 q1 => ?_)
  cases x with
  | scr ns => exact q1.elim
  | _ =>
    unfold isiD at q1
    simp only at q1
    split at q1
    · rename_i b hb
      exact ⟨v, .ty Tn, _, _, b, rfl, .ty Tn, ty_of e1.fh w1 (by intro ns z; cases z), kit_ty hb, Post.here q1 e1.fh (.bl _)⟩
    · exact q1.elim

/-! ### subscripts -/
theorem atI_rp {K : PySem.W.Frag} {F : Hp} {vs : List V} {ds : List D} {i : Int} {d : D} (h : RpA K F vs ds) (e : atI ds i = some d) : ∃ v, atI vs i = some v ∧ Rp K F v d := by
  unfold atI at e ⊢
  rw [h.len]
  cases c : ixN ds.length i with
  | none => rw [c] at e; cases e
  | some j =>
    rw [c] at e
    exact h.getD e
theorem atI_map {α β : Type} {f : α → β} {xs : List α} {i : Int} : atI (xs.map f) i = (atI xs i).map f := by
  unfold atI
  rw [List.length_map]
  cases ixN xs.length i with
  | none => rfl
  | some j => simp
def optD : Option D → R D
  | some d => .ok d
  | none => .bad
def ixD : D → D → R D
  | .lst ds, .int i => optD (atI ds i)
  | .tup ds, .int i => optD (atI ds i)
  | .scr ns, .int i => optD ((atI ns i).map D.int)
  | .str s, .int i => if s.length ≤ sizeLine then optD ((atI s.cps.toList i).map fun c => .str ⟨#[c]⟩) else .bad
  | .dct es, .int i => optD (keyD es i)
  | _, _ => .bad
theorem de_ix {ma mb : List Sl → R D} (hu : X.A.units + 65 < cLine) (ha : DR C X W a ma) (hb : DR C X W b mb) (h1 : PlainIx b) (h2 : NoSl b) : DE C X W (.Subscript a b pos) (m2 ixD ma mb) := by
  obtain ⟨ta, pa, ka⟩ := ha.ex
  obtain ⟨tb, pb, kb⟩ := hb.ex
  refine .of ⟨_, pe_or2 (pe_ix ix_seq pa pb h1) (pe_dget (by omega) pa pb h2), fun F0 H0 F H σ S o Q q => ?_⟩
  by_cases c : ∃ es, ma S = .ok (.dct es)
  · obtain ⟨es, hes⟩ := c
    refine .inr (ka _ _ _ _ _ _ o _ (PostV.toq (gE Q) q fun x v F1 H1 ex e1 w1 q1 => ?_))
    rw [hes] at ex
    cases ex
    refine kb _ _ _ _ _ _ (o.up e1) _ (PostV.to (gE Q) q1 fun y u F2 H2 e2 w2 q2 => ?_)
    cases y with
    | int i =>
      cases w2.isInt
      obtain ⟨a, kvs, rfl, hd, hk⟩ := (w1.up e2).isDct e2.fh
      rcases valV_keyD i hk with ⟨z1, z2⟩ | ⟨v, d, z1, z2, z3⟩
      · simp only [ixD, z2] at q2; exact q2.elim
      · simp only [ixD, z2] at q2
        exact ⟨a, v, rfl, .inl ⟨kvs, .inl i, hd, rfl, z1.symm⟩, Post.here q2 e2.fh z3⟩
    | _ => exact q2.elim
  · refine .inl (ka _ _ _ _ _ _ o _ (PostV.toq (gE Q) q fun x v F1 H1 ex e1 w1 q1 => ?_))
    refine kb _ _ _ _ _ _ (o.up e1) _ (PostV.to (gE Q) q1 fun y u F2 H2 e2 w2 q2 => ?_)
    have w3 := w1.up e2
    cases y with
    | int i =>
      cases w2.isInt
      cases x with
      | lst ds =>
        obtain ⟨a, vs, rfl, ha, ra⟩ := w3.isLst e2.fh
        cases h : atI ds i with
        | none => simp only [ixD, h] at q2; exact q2.elim
        | some d =>
          simp only [ixD, h] at q2
          obtain ⟨v, hv, rv⟩ := atI_rp ra h
          exact .inl ⟨a, vs, i, v, rfl, rfl, SqL.of ha, hv, Post.here q2 e2.fh rv⟩
      | tup ds =>
        obtain ⟨a, vs, rfl, ha, ra⟩ := w3.isTup
        cases h : atI ds i with
        | none => simp only [ixD, h] at q2; exact q2.elim
        | some d =>
          simp only [ixD, h] at q2
          obtain ⟨v, hv, rv⟩ := atI_rp ra h
          exact .inr (.inl ⟨a, vs, i, v, rfl, rfl, SqT.of (e2.fh _ _ ha), hv, Post.here q2 e2.fh rv⟩)
      | scr ns =>
        obtain ⟨a, rfl, ha⟩ := w3.isScr e2.fh
        cases h : atI ns i with
        | none => simp only [ixD, h] at q2; exact q2.elim
        | some d =>
          simp only [ixD, h] at q2
          exact .inl ⟨a, _, i, .int d, rfl, rfl, ha, by rw [atI_map, h] <;> rfl, Post.here q2 e2.fh (.int d)⟩
      | str s =>
        cases w3.isStr
        simp only [ixD] at q2
        by_cases c : s.length ≤ sizeLine
        · rw [if_pos c] at q2
          cases h : atI s.cps.toList i with
          | none => simp only [h] at q2; exact q2.elim
          | some k =>
            simp only [h] at q2
            exact .inr (.inr ⟨s, i, k, rfl, rfl, c, h, Post.here q2 e2.fh (.str _)⟩)
        · rw [if_neg c] at q2; exact q2.elim
      | dct es => exact absurd ⟨es, ex⟩ c
      | _ => exact q2.elim
    | _ => cases x <;> exact q2.elim

/-! ### slices -/
def cutL {α : Type} (xs : List α) (lo hi : Option Int) : List α := (xs.drop (HT.sIx xs.length 0 lo)).take (HT.sIx xs.length xs.length hi - HT.sIx xs.length 0 lo)
theorem cut_rp {K : PySem.W.Frag} {F : Hp} {vs : List V} {ds : List D} (h : RpA K F vs ds) (lo hi : Option Int) : RpA K F (cutV vs lo hi) (cutL ds lo hi) := by
  unfold cutV cutL
  rw [h.len]
  exact (h.drop _).take _
def PostO (C : CL) (K : PySem.W.Frag) (W : WX) (σ : St) (F H : Hp) (r : R (Option Int)) (Q : Option Int → Hp → Prop) : Prop := match r with
  | .ok x => ∀ F' H', Ext F H F' H' → Q x H'
  | .exc e => Wish C W σ F H e
  | .bad => False
structure DO (C : CL) (X : Cx) (W : WX) (e : Option Expr) (m : List Sl → R (Option Int)) : Prop where
  ex : ∃ t, PO X e t ∧ ∀ F0 H0 F H σ S, Ok C X.K F0 H0 F H σ S → ∀ Q, PostO C X.K W σ F H (m S) Q → t σ H Q
theorem PostO.to {K : PySem.W.Frag} {σ : St} {F H : Hp} {α : Type} {G : Hp → Hp → R α → Prop} {r : R (Option Int)} {f : Option Int → R α} {Q : Option Int → Hp → Prop} (g : GO C K W σ G) (h : G F H (r.bind f)) (k : ∀ x F1 H1, Ext F H F1 H1 → G F1 H1 (f x) → Q x H1) : PostO C K W σ F H r Q := by
  cases r with
  | ok x => exact fun F1 H1 e => k x F1 H1 e (g.up _ _ _ _ _ e h)
  | exc e => exact g.ge _ _ e h
  | bad => exact (g.gb _ _ h).elim
def oNo (_ : List Sl) : R (Option Int) := .ok none
def toI : D → R (Option Int)
  | .int i => .ok (some i)
  | _ => .bad
def oSome (m : List Sl → R D) (S : List Sl) : R (Option Int) := (m S).bind toI
theorem do_no : DO C X W none oNo := ⟨_, po_none, fun F0 H0 F H σ S o Q q => q F H (Ext.refl o.sub)⟩
theorem gO {K : PySem.W.Frag} {σ : St} (Q : Option Int → Hp → Prop) : GO C K W σ (fun F H r => PostO C K W σ F H r Q) := by
  refine ⟨fun F H F1 H1 x e h => ?_, fun _ _ _ h => h, fun _ _ h => h⟩
  cases x with
  | ok x => exact fun F' H' y => h F' H' (e.trans y)
  | exc x => exact Wish.up h e
  | bad => exact h
theorem do_some {m : List Sl → R D} (h : DR C X W e m) : DO C X W (some e) (oSome m) := by
  obtain ⟨t, p, k⟩ := h.ex
  refine ⟨_, po_some p, fun F0 H0 F H σ S o Q q => ?_⟩
  refine k _ _ _ _ _ _ o _ (PostV.to (gO Q) q fun x v F1 H1 e1 w1 q1 => ?_)
  cases x with
  | int i => cases w1.isInt; exact ⟨i, rfl, q1 F1 H1 (Ext.refl e1.fh)⟩
  | _ => exact q1.elim
def slD (lo hi : Option Int) : D → R D
  | .lst ds => .ok (.lst (cutL ds lo hi))
  | .tup ds => .ok (.tup (cutL ds lo hi))
  | .str s => if s.length ≤ sizeLine then .ok (.str (cutS s lo hi)) else .bad
  | _ => .bad
def mSl (ma : List Sl → R D) (ml mh : List Sl → R (Option Int)) (S : List Sl) : R D := (ma S).bind fun x => (ml S).bind fun l => (mh S).bind fun h => slD l h x
theorem cut_all {vs : List V} {lo hi : Option Int} (h : HT.sIx vs.length 0 lo = 0 ∧ HT.sIx vs.length vs.length hi = vs.length) : cutV vs lo hi = vs := by
  unfold cutV
  rw [h.1, h.2]
  simp
theorem de_sl {p2 : Pos} {lo hi : Option Expr} {ma : List Sl → R D} {ml mh : List Sl → R (Option Int)} (ha : DR C X W a ma) (hl : DO C X W lo ml) (hh : DO C X W hi mh) : DE C X W (.Subscript a (.Slice lo hi none p2) pos) (mSl ma ml mh) := by
  obtain ⟨ta, pa, ka⟩ := ha.ex
  obtain ⟨tl, pl, kl⟩ := hl.ex
  obtain ⟨th, ph, kh⟩ := hh.ex
  refine .of ⟨_, pe_slice (sl_list.or (sl_tupA.or sl_str)) pa pl ph, fun F0 H0 F H σ S o Q q => ?_⟩
  refine ka _ _ _ _ _ _ o _ (PostV.to (gE Q) q fun x v F1 H1 e1 w1 q1 => ?_)
  refine kl _ _ _ _ _ _ (o.up e1) _ (PostO.to (gE Q) q1 fun l F2 H2 e2 q2 => ?_)
  refine kh _ _ _ _ _ _ ((o.up e1).up e2) _ (PostO.to (gE Q) q2 fun u F3 H3 e3 q3 => ?_)
  have w3 := (w1.up e2).up e3
  cases x with
  | lst ds =>
    obtain ⟨a, vs, rfl, ha, ra⟩ := w3.isLst e3.fh
    exact .inl ⟨a, vs, rfl, SqL.of ha, fun p hp => (PostP.of q3).newL e3.fh (cut_rp ra l u) hp⟩
  | tup ds =>
    obtain ⟨a, vs, rfl, ha, ra⟩ := w3.isTup
    refine .inr (.inl ⟨a, vs, rfl, SqT.of (e3.fh _ _ ha), fun z => ?_, fun _ p hp => (PostP.of q3).newT e3.fh (cut_rp ra l u) hp⟩)
    have c := cut_rp ra l u
    rw [cut_all z] at c
    exact Post.here q3 e3.fh (.tup ha c)
  | str s =>
    cases w3.isStr
    unfold slD at q3
    simp only at q3
    by_cases c : s.length ≤ sizeLine
    · rw [if_pos c] at q3
      exact .inr (.inr ⟨s, rfl, c, Post.here q3 e3.fh (.str _)⟩)
    · rw [if_neg c] at q3; exact q3.elim
  | _ => exact q3.elim
def mSlN (ma : List Sl → R D) (ml mh : List Sl → R (Option Int)) (S : List Sl) : R (List D) := (ma S).bind fun x => (ml S).bind fun l => (mh S).bind fun h => match x with
  | .lst ds => .ok (cutL ds l h)
  | _ => .bad
theorem dn_sl {p2 : Pos} {lo hi : Option Expr} {ma : List Sl → R D} {ml mh : List Sl → R (Option Int)} (ha : DR C X W a ma) (hl : DO C X W lo ml) (hh : DO C X W hi mh) : DN C X W (.Subscript a (.Slice lo hi none p2) pos) (mSlN ma ml mh) := by
  obtain ⟨ta, pa, ka⟩ := ha.ex
  obtain ⟨tl, pl, kl⟩ := hl.ex
  obtain ⟨th, ph, kh⟩ := hh.ex
  refine .of ⟨_, pe_slice sl_list pa pl ph, fun F0 H0 F H σ S o Q q => ?_⟩
  refine ka _ _ _ _ _ _ o _ (PostV.to (gN Q) q fun x v F1 H1 e1 w1 q1 => ?_)
  refine kl _ _ _ _ _ _ (o.up e1) _ (PostO.to (gN Q) q1 fun l F2 H2 e2 q2 => ?_)
  refine kh _ _ _ _ _ _ ((o.up e1).up e2) _ (PostO.to (gN Q) q2 fun u F3 H3 e3 q3 => ?_)
  have w3 := (w1.up e2).up e3
  cases x with
  | lst ds =>
    obtain ⟨a, vs, rfl, ha, ra⟩ := w3.isLst e3.fh
    exact ⟨a, vs, rfl, SqL.of ha, fun p hp => (PostPN.of q3).here e3.fh (cut_rp ra l u) hp⟩
  | _ => exact q3.elim
/-- xs + ys, a new list -/
def catN (x y : D) : R (List D) := match x, y with
  | .lst xs, .lst ys => lim (xs ++ ys)
  | _, _ => .bad
def m2N (g : D → D → R (List D)) (ma mb : List Sl → R D) (S : List Sl) : R (List D) := (ma S).bind fun x => (mb S).bind fun y => g x y
theorem dn_cat {ma mb : List Sl → R D} (ha : DR C X W a ma) (hb : DR C X W b mb) : DN C X W (.BinOp a .Add b pos) (m2N catN ma mb) := by
  obtain ⟨ta, pa, ka⟩ := ha.ex
  obtain ⟨tb, pb, kb⟩ := hb.ex
  refine .of ⟨_, pe_op op_cat pa pb, fun F0 H0 F H σ S o Q q => ?_⟩
  refine ka _ _ _ _ _ _ o _ (PostV.to (gN Q) q fun x v F1 H1 e1 w1 q1 => ?_)
  refine kb _ _ _ _ _ _ (o.up e1) _ (PostV.to (gN Q) q1 fun y u F2 H2 e2 w2 q2 => ?_)
  have w3 := w1.up e2
  cases x with
  | lst xs =>
    cases y with
    | lst ys =>
      obtain ⟨a, vs, rfl, ha, ra⟩ := w3.isLst e2.fh
      obtain ⟨b, ws, rfl, hb, rb⟩ := w2.isLst e2.fh
      unfold catN lim at q2
      simp only at q2
      by_cases c : (xs ++ ys).length ≤ sizeLine
      · rw [if_pos c] at q2
        refine ⟨a, b, vs, ws, rfl, rfl, ha, hb, by rw [ra.len, rb.len, ← List.length_append]; exact c, fun p hp => (PostPN.of q2).here e2.fh (ra.app rb) hp⟩
      · rw [if_neg c] at q2; exact q2.elim
    | _ => exact q2.elim
  | _ => exact q2.elim

/-! ### methods of texts; get of a dict -/
def MtD (X : Cx) (id : String) (g : D → D → R D) : Prop :=
  ∃ r : V → List V → Hp → VK → Prop, MtR X id r ∧ ∀ F H x y vx vy Q, Same F H → Vw X.K F H vx x → Vw X.K F H vy y → PostP X.K F H (g x y) Q → (∃ s, vx = .str s) ∧ r vx [vy] H Q
def MtN (X : Cx) (id : String) (g : D → D → R (List D)) : Prop :=
  ∃ r : V → List V → Hp → VK → Prop, MtR X id r ∧ ∀ F H x y vx vy Q, Same F H → Vw X.K F H vx x → Vw X.K F H vy y → PostPN X.K F H (g x y) Q → (∃ s, vx = .str s) ∧ r vx [vy] H Q
def isStrD : D → Bool
  | .str _ => true
  | _ => false
def guardS (x : D) : R D := match x with
  | .str s => .ok (.str s)
  | _ => .bad
theorem de_m1 {id : String} {name : Str} {g : D → D → R D} {ma mb : List Sl → R D} (slot : Slot "str" name id) (ty : typeOf (.builtin id) = pure (.type "method_descriptor")) (rule : MtD X id g) (ha : DR C X W a ma) (hb : DR C X W e mb)
    (hs : starEach [e] X.env = [(false, eval e X.env)] := by rfl) (hbase : attributeBase a name X.env (eval a X.env) = eval a X.env := by rfl) (hline : (apos.endLine == pos.line) = true := by rfl) :
    DE C X W (.Call (.Attribute a name apos) [e] [] pos) (fun S => (ma S).bind fun x => (guardS x).bind fun x => (mb S).bind fun y => g x y) := by
  obtain ⟨r, hr, k⟩ := rule
  obtain ⟨ta, pa, ka⟩ := ha.ex
  obtain ⟨tb, pb, kb⟩ := hb.ex
  refine .of ⟨_, pe_m1 slot ty hr pa pb hs hbase hline, fun F0 H0 F H σ S o Q q => ?_⟩
  refine ka _ _ _ _ _ _ o _ (PostV.to (gE Q) q fun x v F1 H1 e1 w1 q1 => ?_)
  cases x with
  | str s =>
    refine ⟨⟨s, w1.isStr⟩, ?_⟩
    refine kb _ _ _ _ _ _ (o.up e1) _ (PostV.to (gE Q) q1 fun y u F2 H2 e2 w2 q2 => ?_)
    exact (k F2 H2 _ y v u Q e2.fh (w1.up e2) w2 (PostP.of q2)).2
  | _ => exact q1.elim
theorem dn_m1 {id : String} {name : Str} {g : D → D → R (List D)} {ma mb : List Sl → R D} (slot : Slot "str" name id) (ty : typeOf (.builtin id) = pure (.type "method_descriptor")) (rule : MtN X id g) (ha : DR C X W a ma) (hb : DR C X W e mb)
    (hs : starEach [e] X.env = [(false, eval e X.env)] := by rfl) (hbase : attributeBase a name X.env (eval a X.env) = eval a X.env := by rfl) (hline : (apos.endLine == pos.line) = true := by rfl) :
    DN C X W (.Call (.Attribute a name apos) [e] [] pos) (fun S => (ma S).bind fun x => (guardS x).bind fun x => (mb S).bind fun y => g x y) := by
  obtain ⟨r, hr, k⟩ := rule
  obtain ⟨ta, pa, ka⟩ := ha.ex
  obtain ⟨tb, pb, kb⟩ := hb.ex
  refine .of ⟨_, pe_m1 slot ty hr pa pb hs hbase hline, fun F0 H0 F H σ S o Q q => ?_⟩
  refine ka _ _ _ _ _ _ o _ (PostV.to (gN Q) q fun x v F1 H1 e1 w1 q1 => ?_)
  cases x with
  | str s =>
    refine ⟨⟨s, w1.isStr⟩, ?_⟩
    refine kb _ _ _ _ _ _ (o.up e1) _ (PostV.to (gN Q) q1 fun y u F2 H2 e2 w2 q2 => ?_)
    exact (k F2 H2 _ y v u Q e2.fh (w1.up e2) w2 (PostPN.of q2)).2
  | _ => exact q1.elim
def findD : D → D → R D
  | .str s, .str z => .ok (.int (Txt.find s z))
  | _, _ => .bad
theorem md_find : MtD X "str.find" findD := ⟨_, mt_find, fun F H x y vx vy Q e w1 w2 q => by
  cases x with
  | str s =>
    cases y with
    | str z => cases w1.isStr; cases w2.isStr; exact ⟨⟨_, rfl⟩, s, z, rfl, rfl, q.here e (.int _)⟩
    | _ => exact q.elim
  | _ => exact q.elim⟩
def str? : D → Option Str
  | .str s => some s
  | _ => none
def strsD : List D → Option (List Str)
  | [] => some []
  | d :: ds => match str? d, strsD ds with
    | some b, some bs => some (b :: bs)
    | _, _ => none
theorem strs_rp {K : PySem.W.Frag} {F : Hp} : ∀ {ds : List D} {vs : List V} {bs : List Str}, RpA K F vs ds → strsD ds = some bs → vs = bs.map V.str
  | [], _, bs, h, e => by cases h; cases e; rfl
  | d :: ds, _, bs, h, e => by
    cases h with
    | cons h1 h2 =>
      cases d with
      | str b =>
        cases h3 : strsD ds with
        | none => simp [strsD, str?, h3] at e
        | some cs =>
          simp [strsD, str?, h3] at e
          subst e
          cases h1
          rw [strs_rp h2 h3]
          rfl
      | _ => simp [strsD, str?] at e
theorem rp_strs {K : PySem.W.Frag} {F : Hp} : ∀ bs : List Str, RpA K F (bs.map V.str) (bs.map D.str)
  | [] => .nil
  | b :: bs => .cons (.str b) (rp_strs bs)
def joinD : D → D → R D
  | .str s, .lst ds => match strsD ds with
    | some ys => if (ys.map (·.length)).sum + ys.length * s.length ≤ 16777216 then .ok (.str (Txt.join s ys)) else .bad
    | none => .bad
  | _, _ => .bad
theorem md_join : MtD X "str.join" joinD := ⟨_, mt_join, fun F H x y vx vy Q e w1 w2 q => by
  cases x with
  | str s =>
    cases y with
    | lst ds =>
      cases w1.isStr
      obtain ⟨a, vs, rfl, ha, ra⟩ := w2.isLst e
      cases h : strsD ds with
      | none => simp only [joinD, h] at q; exact q.elim
      | some ys =>
        simp only [joinD, h] at q
        have ev := strs_rp ra h
        subst ev
        by_cases c : (ys.map (·.length)).sum + ys.length * s.length ≤ 16777216
        · rw [if_pos c] at q
          exact ⟨⟨_, rfl⟩, s, a, ys, rfl, rfl, .inl (SqL.of ha), c, q.here e (.str _)⟩
        · rw [if_neg c] at q; exact q.elim
    | _ => exact q.elim
  | _ => exact q.elim⟩
def splitD : D → D → R (List D)
  | .str s, .str z => if (z.length == 0) = false ∧ s.length + 2 ≤ sizeLine then .ok ((Txt.split s z).map D.str) else .bad
  | _, _ => .bad
theorem mn_split : MtN X "str.split" splitD := ⟨_, mt_split, fun F H x y vx vy Q e w1 w2 q => by
  cases x with
  | str s =>
    cases y with
    | str z =>
      cases w1.isStr; cases w2.isStr
      by_cases c : (z.length == 0) = false ∧ s.length + 2 ≤ sizeLine
      · rw [splitD, if_pos c] at q
        exact ⟨⟨_, rfl⟩, s, z, rfl, rfl, c.1, c.2, fun p hp => q.here e (rp_strs _) hp⟩
      · rw [splitD, if_neg c] at q; exact q.elim
    | _ => exact q.elim
  | _ => exact q.elim⟩
/-- d.get(k, z) -/
def getD3 : D → D → D → R D
  | .dct es, .int i, z => .ok ((keyD es i).getD z)
  | _, _, _ => .bad
def m3g (ma mb mc : List Sl → R D) (S : List Sl) : R D := (ma S).bind fun x => (mb S).bind fun y => (mc S).bind fun z => getD3 x y z
def isDctR (x : D) : R D := match x with
  | .dct es => .ok (.dct es)
  | _ => .bad
theorem de_get {f : Expr} {cpos : Pos} {ma mb mc : List Sl → R D} (hu : X.A.units + 1 < cLine) (ha : DR C X W a ma) (hb : DR C X W e mb) (hc : DE C X W f mc) (m : M2 X a "get" apos e f cpos) :
    DE C X W (.Call (.Attribute a "get" apos) [e, f] [] cpos) (fun S => (ma S).bind fun x => (isDctR x).bind fun x => (mb S).bind fun y => (mc S).bind fun z => getD3 x y z) := by
  obtain ⟨ta, pa, ka⟩ := ha.ex
  obtain ⟨tb, pb, kb⟩ := hb.ex
  obtain ⟨tc, pc, kc⟩ := hc.ex
  refine .of ⟨_, pe_dget2 hu pa pb pc m, fun F0 H0 F H σ S o Q q => ?_⟩
  refine ka _ _ _ _ _ _ o _ (PostV.to (gE Q) q fun x v F1 H1 e1 w1 q1 => ?_)
  cases x with
  | dct es =>
    obtain ⟨a, kvs, rfl, hd, hk⟩ := w1.isDct e1.fh
    refine ⟨a, rfl, .inl ⟨kvs, hd⟩, ?_⟩
    refine kb _ _ _ _ _ _ (o.up e1) _ (PostV.to (gE Q) q1 fun y u F2 H2 e2 w2 q2 => ?_)
    refine kc _ _ _ _ _ _ ((o.up e1).up e2) _ (Post.to (gE Q) q2 fun z zv F3 H3 e3 r3 q3 => ?_)
    cases y with
    | int i =>
      cases w2.isInt
      have hd3 : Rd H3 a (.dK kvs) := rd_mono e3.hh (rd_mono e2.hh hd)
      have hk3 := (hk.up e2.ff).up e3.ff
      rcases valV_keyD i hk3 with ⟨z1, z2⟩ | ⟨v, d, z1, z2, z3⟩
      · refine ⟨none, .inl ⟨kvs, .inl i, hd3, rfl, z1.symm⟩, ?_⟩
        simp only [getD3, z2] at q3
        exact Post.here q3 e3.fh r3
      · refine ⟨some v, .inl ⟨kvs, .inl i, hd3, rfl, z1.symm⟩, ?_⟩
        simp only [getD3, z2] at q3
        exact Post.here q3 e3.fh z3
    | _ => exact q3.elim
  | _ => exact q1.elim
end
end DL
/-! The data layer, part E: what is walked, comprehensions, statements, defs. -/
namespace DL
open PySem L2

/-! ### what is walked -/
def Walk (K : PySem.W.Frag) (J : It) (B F : Hp) (ds : List D) : Prop :=
  ∀ (i : Nat) (H' : Hp), Same B H' → (∀ d, ds[i]? = some d → J.go i H' ∧ ∀ x H'', J.yld i H' x H'' → H'' = H' ∧ Rp K F x d) ∧ (ds.length ≤ i → J.stop i H')
theorem Walk.up {K : PySem.W.Frag} {J : It} {B B' F : Hp} {ds : List D} (h : Walk K J B F ds) (e : Same B B') : Walk K J B' F ds := fun i H' q => h i H' (e.trans q)
/-- read at once; known to all -/
def PostI (C : CL) (K : PySem.W.Frag) (W : WX) (σ : St) (F H : Hp) (r : R (List D)) (Q : It → Hp → Prop) : Prop := match r with
  | .ok ds => ∀ J F' H', Ext F H F' H' → Walk K J H' F' ds → Q J H'
  | .exc e => Wish C W σ F H e
  | .bad => False
def PostIS (C : CL) (K : PySem.W.Frag) (W : WX) (σ : St) (F H : Hp) (r : R (List D)) (Q : It → Hp → Prop) : Prop := match r with
  | .ok ds => ∀ J F' H', Ext F H F' H' → Walk K J F' F' ds → Q J H'
  | .exc e => Wish C W σ F H e
  | .bad => False
def cI (C : CL) (K : PySem.W.Frag) (W : WX) (m : List Sl → R (List D)) : TI := fun σ H Q => ∃ F0 H0 F S, Ok C K F0 H0 F H σ S ∧ PostI C K W σ F H (m S) Q
def cIS (C : CL) (K : PySem.W.Frag) (W : WX) (m : List Sl → R (List D)) : TI := fun σ H Q => ∃ F0 H0 F S, Ok C K F0 H0 F H σ S ∧ PostIS C K W σ F H (m S) Q
structure DI (C : CL) (X : Cx) (W : WX) (tg e : Expr) (m : List Sl → R (List D)) : Prop where
  run : PI X tg e (cI C X.K W m)
structure DIS (C : CL) (X : Cx) (W : WX) (tg e : Expr) (m : List Sl → R (List D)) : Prop where
  run : PI X tg e (cIS C X.K W m)
section
variable {C : CL} {X : Cx} {W : WX} {tg e a b c : Expr} {p pos : Pos}
theorem DI.of {m : List Sl → R (List D)} (h : ∃ t, PI X tg e t ∧ ∀ F0 H0 F H σ S, Ok C X.K F0 H0 F H σ S → ∀ Q, PostI C X.K W σ F H (m S) Q → t σ H Q) : DI C X W tg e m := by
  obtain ⟨t, p, k⟩ := h
  exact ⟨⟨fun pins s σ H Q I ⟨F0, H0, F, S, o, q⟩ => p.run pins s σ H Q I (k F0 H0 F H σ S o Q q)⟩⟩
theorem DI.ex {m : List Sl → R (List D)} (h : DI C X W tg e m) : ∃ t, PI X tg e t ∧ ∀ F0 H0 F H σ S, Ok C X.K F0 H0 F H σ S → ∀ Q, PostI C X.K W σ F H (m S) Q → t σ H Q :=
  ⟨_, h.run, fun F0 H0 F H σ S o Q q => ⟨F0, H0, F, S, o, q⟩⟩
theorem DIS.of {m : List Sl → R (List D)} (h : ∃ t, PI X tg e t ∧ ∀ F0 H0 F H σ S, Ok C X.K F0 H0 F H σ S → ∀ Q, PostIS C X.K W σ F H (m S) Q → t σ H Q) : DIS C X W tg e m := by
  obtain ⟨t, p, k⟩ := h
  exact ⟨⟨fun pins s σ H Q I ⟨F0, H0, F, S, o, q⟩ => p.run pins s σ H Q I (k F0 H0 F H σ S o Q q)⟩⟩
theorem DIS.ex {m : List Sl → R (List D)} (h : DIS C X W tg e m) : ∃ t, PI X tg e t ∧ ∀ F0 H0 F H σ S, Ok C X.K F0 H0 F H σ S → ∀ Q, PostIS C X.K W σ F H (m S) Q → t σ H Q :=
  ⟨_, h.run, fun F0 H0 F H σ S o Q q => ⟨F0, H0, F, S, o, q⟩⟩
theorem DIS.i {m : List Sl → R (List D)} (h : DIS C X W tg e m) : DI C X W tg e m := by
  obtain ⟨t, p, k⟩ := h.ex
  refine .of ⟨t, p, fun F0 H0 F H σ S o Q q => k F0 H0 F H σ S o Q ?_⟩
  cases hm : m S with
  | ok x => rw [hm] at q; exact fun J F' H' e r => q J F' H' e (r.up e.fh)
  | exc x => rw [hm] at q; exact q
  | bad => rw [hm] at q; exact q
theorem gI {K : PySem.W.Frag} {σ : St} (Q : It → Hp → Prop) : GO C K W σ (fun F H r => PostI C K W σ F H r Q) := by
  refine ⟨fun F H F1 H1 x e h => ?_, fun _ _ _ h => h, fun _ _ h => h⟩
  cases x with
  | ok x => exact fun J F' H' y => h J F' H' (e.trans y)
  | exc x => exact Wish.up h e
  | bad => exact h
theorem gIS {K : PySem.W.Frag} {σ : St} (Q : It → Hp → Prop) : GO C K W σ (fun F H r => PostIS C K W σ F H r Q) := by
  refine ⟨fun F H F1 H1 x e h => ?_, fun _ _ _ h => h, fun _ _ h => h⟩
  cases x with
  | ok x => exact fun J F' H' y => h J F' H' (e.trans y)
  | exc x => exact Wish.up h e
  | bad => exact h
def itemsD : D → R (List D)
  | .lst ds => .ok ds
  | .tup ds => .ok ds
  | .str s => .ok (s.cps.toList.map fun c => .str ⟨#[c]⟩)
  | _ => .bad
theorem walk_lst {K : PySem.W.Frag} {B F : Hp} {a : Addr} {vs : List V} {ds : List D} (h : B a = some (.lst vs)) (r : RpA K F vs ds) : Walk K (Itl K a) B F ds := by
  intro i H' e
  have hs : H' a = some (.lst vs) := e _ _ h
  refine ⟨fun d hd => ?_, fun hl => ⟨vs, SqL.of hs, by rw [r.len]; exact hl⟩⟩
  obtain ⟨v, hv, rv⟩ := r.getD hd
  refine ⟨⟨vs, v, SqL.of hs, hv⟩, fun x H'' y => ⟨y.1, ?_⟩⟩
  have hx := y.2 vs (SqL.of hs)
  rw [hv] at hx
  cases hx
  exact rv
theorem walk_tup {K : PySem.W.Frag} {B F : Hp} {a : Addr} {vs : List V} {ds : List D} (h : B a = some (.tup vs)) (r : RpA K F vs ds) : Walk K (Itt K a) B F ds := by
  intro i H' e
  have hs : H' a = some (.tup vs) := e _ _ h
  refine ⟨fun d hd => ?_, fun hl => ⟨vs, SqT.of hs, by rw [r.len]; exact hl⟩⟩
  obtain ⟨v, hv, rv⟩ := r.getD hd
  refine ⟨⟨vs, v, SqT.of hs, hv⟩, fun x H'' y => ⟨y.1, ?_⟩⟩
  have hx := y.2 vs (SqT.of hs)
  rw [hv] at hx
  cases hx
  exact rv
theorem walk_str {K : PySem.W.Frag} {B F : Hp} {s : Str} : Walk K (Its s) B F (s.cps.toList.map fun c => .str ⟨#[c]⟩) := by
  intro i H' e
  refine ⟨fun d hd => ?_, fun hl => (show s.cps.size ≤ i by simpa using hl)⟩
  rw [List.getElem?_map] at hd
  cases q : s.cps.toList[i]? with
  | none => rw [q] at hd; cases hd
  | some c =>
    rw [q] at hd
    cases hd
    have q' : s.cps[i]? = some c := by simpa using q
    refine ⟨(Array.getElem?_eq_some_iff.mp q').1, fun x H'' y => ?_⟩
    obtain ⟨h1, k, h2, h3⟩ := y
    rw [q'] at h2
    cases h2
    exact ⟨h1, by rw [h3]; exact .str _⟩
def mItems (ma : List Sl → R D) (S : List Sl) : R (List D) := (ma S).bind itemsD
theorem di_seq {ma : List Sl → R D} (ha : DR C X W a ma) : DI C X W tg a (mItems ma) := by
  obtain ⟨ta, pa, ka⟩ := ha.ex
  refine .of ⟨_, pi_or2 (pi_list pa) (pi_or2 (pi_tup pa) (pi_str pa)), fun F0 H0 F H σ S o Q q => ?_⟩
  cases hm : ma S with
  | ok x =>
    have q0 : PostV C X.K W σ F H (ma S) fun v H1 => ∃ F1, Ext F H F1 H1 ∧ Vw X.K F1 H1 v x ∧ PostI C X.K W σ F1 H1 (itemsD x) Q :=
      PostV.toq (gI Q) q fun y v F1 H1 ey e1 w1 q1 => by rw [hm] at ey; cases ey; exact ⟨F1, e1, w1, q1⟩
    cases x with
    | lst ds =>
      refine .inl (ka _ _ _ _ _ _ o _ (hm ▸ ?_))
      rw [hm] at q0
      intro v F1 H1 e1 w1
      obtain ⟨F2, e2, w2, q2⟩ := q0 v F1 H1 e1 w1
      obtain ⟨a, vs, rfl, ha, ra⟩ := w2.isLst e2.fh
      exact ⟨a, rfl, ⟨vs, SqL.of ha⟩, q2 _ F2 H1 (Ext.refl e2.fh) (walk_lst ha ra)⟩
    | tup ds =>
      refine .inr (.inl (ka _ _ _ _ _ _ o _ (hm ▸ ?_)))
      rw [hm] at q0
      intro v F1 H1 e1 w1
      obtain ⟨F2, e2, w2, q2⟩ := q0 v F1 H1 e1 w1
      obtain ⟨a, vs, rfl, ha, ra⟩ := w2.isTup
      exact ⟨a, rfl, ⟨vs, SqT.of (e2.fh _ _ ha)⟩, q2 _ F2 H1 (Ext.refl e2.fh) (walk_tup (e2.fh _ _ ha) ra)⟩
    | str s =>
      refine .inr (.inr (ka _ _ _ _ _ _ o _ (hm ▸ ?_)))
      rw [hm] at q0
      intro v F1 H1 e1 w1
      obtain ⟨F2, e2, w2, q2⟩ := q0 v F1 H1 e1 w1
      cases w2.isStr
      exact ⟨s, rfl, q2 _ F2 H1 (Ext.refl e2.fh) walk_str⟩
    | _ => unfold mItems at q; rw [hm] at q; exact q.elim
  | exc x =>
    unfold mItems at q
    rw [hm] at q
    exact .inl (ka _ _ _ _ _ _ o _ (by rw [hm]; exact q))
  | bad => unfold mItems at q; rw [hm] at q; exact q.elim
theorem dis_seq {ma : List Sl → R D} (ha : DE C X W a ma) : DIS C X W tg a (mItems ma) := by
  obtain ⟨ta, pa, ka⟩ := ha.ex
  refine .of ⟨_, pi_or2 (pi_list pa) (pi_or2 (pi_tup pa) (pi_str pa)), fun F0 H0 F H σ S o Q q => ?_⟩
  cases hm : ma S with
  | ok x =>
    have q0 : Post C X.K W σ F H (ma S) fun v H1 => ∃ F1, Ext F H F1 H1 ∧ Rp X.K F1 v x ∧ PostIS C X.K W σ F1 H1 (itemsD x) Q :=
      Post.toq (gIS Q) q fun y v F1 H1 ey e1 w1 q1 => by rw [hm] at ey; cases ey; exact ⟨F1, e1, w1, q1⟩
    cases x with
    | lst ds =>
      refine .inl (ka _ _ _ _ _ _ o _ (hm ▸ ?_))
      rw [hm] at q0
      intro v F1 H1 e1 w1
      obtain ⟨F2, e2, w2, q2⟩ := q0 v F1 H1 e1 w1
      cases w2 with
      | lst ha ra => exact ⟨_, rfl, ⟨_, SqL.of (e2.fh _ _ ha)⟩, q2 _ F2 H1 (Ext.refl e2.fh) (walk_lst ha ra)⟩
    | tup ds =>
      refine .inr (.inl (ka _ _ _ _ _ _ o _ (hm ▸ ?_)))
      rw [hm] at q0
      intro v F1 H1 e1 w1
      obtain ⟨F2, e2, w2, q2⟩ := q0 v F1 H1 e1 w1
      cases w2 with
      | tup ha ra => exact ⟨_, rfl, ⟨_, SqT.of (e2.fh _ _ ha)⟩, q2 _ F2 H1 (Ext.refl e2.fh) (walk_tup ha ra)⟩
    | str s =>
      refine .inr (.inr (ka _ _ _ _ _ _ o _ (hm ▸ ?_)))
      rw [hm] at q0
      intro v F1 H1 e1 w1
      obtain ⟨F2, e2, w2, q2⟩ := q0 v F1 H1 e1 w1
      cases w2
      exact ⟨s, rfl, q2 _ F2 H1 (Ext.refl e2.fh) walk_str⟩
    | _ => unfold mItems at q; rw [hm] at q; exact q.elim
  | exc x =>
    unfold mItems at q
    rw [hm] at q
    exact .inl (ka _ _ _ _ _ _ o _ (by rw [hm]; exact q))
  | bad => unfold mItems at q; rw [hm] at q; exact q.elim
/-! range(..) -/
def rangeL (lo : Int) (n : Nat) (c : Int) : List D := (List.range n).map fun (k : Nat) => .int (lo + (k : Int) * c)
def rng1 : List D → R (List D)
  | [.int n] => if -(2 ^ 62) ≤ n ∧ n < 2 ^ 62 then .ok (rangeL 0 n.toNat 1) else .bad
  | _ => .bad
def rng2 : List D → R (List D)
  | [.int i, .int j] => if -(2 ^ 62) ≤ i ∧ i < 2 ^ 62 ∧ -(2 ^ 62) ≤ j ∧ j < 2 ^ 62 then .ok (rangeL i (j - i).toNat 1) else .bad
  | _ => .bad
def rng3 : List D → R (List D)
  | [.int i, .int j, .int c] => if -(2 ^ 62) ≤ i ∧ i < 2 ^ 62 ∧ -(2 ^ 62) ≤ j ∧ j < 2 ^ 62 ∧ c = -1 then .ok (rangeL i (i - j).toNat (-1)) else .bad
  | _ => .bad
theorem range_at {lo c : Int} {n i : Nat} {d : D} (h : (rangeL lo n c)[i]? = some d) : i < n ∧ d = .int (lo + (i : Int) * c) := by
  unfold rangeL at h
  rw [List.getElem?_map] at h
  cases q : (List.range n)[i]? with
  | none => rw [q] at h; cases h
  | some k =>
    rw [q] at h
    cases h
    obtain ⟨h1, h2⟩ := List.getElem?_eq_some_iff.mp q
    rw [List.length_range] at h1
    rw [List.getElem_range] at h2
    exact ⟨h1, by rw [h2]⟩
theorem range_len {lo c : Int} {n : Nat} : (rangeL lo n c).length = n := by simp [rangeL]
theorem walk_range {K : PySem.W.Frag} {B F : Hp} {lo : Int} {n : Nat} : Walk K (Itr lo n) B F (rangeL lo n 1) := by
  intro i H' e
  refine ⟨fun d hd => ?_, fun hl => by rw [range_len] at hl; exact hl⟩
  obtain ⟨h1, h2⟩ := range_at hd
  refine ⟨h1, fun x H'' y => ⟨y.1, ?_⟩⟩
  rw [y.2, h2, Int.mul_one]
  exact .int _
theorem walk_rangeC {K : PySem.W.Frag} {B F : Hp} {lo c : Int} {n : Nat} : Walk K (Itc lo c n) B F (rangeL lo n c) := by
  intro i H' e
  refine ⟨fun d hd => ?_, fun hl => by rw [range_len] at hl; exact hl⟩
  obtain ⟨h1, h2⟩ := range_at hd
  refine ⟨h1, fun x H'' y => ⟨y.1, ?_⟩⟩
  rw [y.2, h2]
  exact .int _
theorem dis_range1 {m : List Sl → R (List D)} (hg : Gl X "range") (hm : X.mg "range" = none) (ha : DA C X W [a] m) (hs : starEach [a] X.env = [(false, eval a X.env)] := by rfl) : DIS C X W tg (.Call (.Name "range" p) [a] [] pos) (fun S => (m S).bind rng1) := by
  obtain ⟨ta, pa, ka⟩ := ha.ex
  refine .of ⟨_, pi_range1 hg hm pa hs, fun F0 H0 F H σ S o Q q => ?_⟩
  refine ka _ _ _ _ _ _ o _ (PostA.to (gIS Q) q fun xs vs F1 H1 e1 w1 q1 => ?_)
  unfold rng1 at q1
  split at q1
  · rename_i n
    obtain ⟨v, ev, wv⟩ := w1.c1
    cases wv.isInt
    split at q1
    · rename_i c
      exact ⟨n, ev, c.1, c.2, q1 _ F1 H1 (Ext.refl e1.fh) walk_range⟩
    · exact q1.elim
  · exact q1.elim
theorem dis_range2 {m : List Sl → R (List D)} (hg : Gl X "range") (hm : X.mg "range" = none) (ha : DA C X W [a, b] m) (hs : starEach [a, b] X.env = [(false, eval a X.env), (false, eval b X.env)] := by rfl) (hs2 : starEach [b] X.env = [(false, eval b X.env)] := by rfl) :
    DIS C X W tg (.Call (.Name "range" p) [a, b] [] pos) (fun S => (m S).bind rng2) := by
  obtain ⟨ta, pa, ka⟩ := ha.ex
  refine .of ⟨_, pi_range2 hg hm pa hs hs2, fun F0 H0 F H σ S o Q q => ?_⟩
  refine ka _ _ _ _ _ _ o _ (PostA.to (gIS Q) q fun xs vs F1 H1 e1 w1 q1 => ?_)
  unfold rng2 at q1
  split at q1
  · rename_i i j
    obtain ⟨v, u, ev, wv, wu⟩ := w1.c2
    cases wv.isInt
    cases wu.isInt
    split at q1
    · rename_i c
      exact ⟨i, j, ev, c, q1 _ F1 H1 (Ext.refl e1.fh) walk_range⟩
    · exact q1.elim
  · exact q1.elim
theorem dis_range3 {m : List Sl → R (List D)} (hg : Gl X "range") (hm : X.mg "range" = none) (ha : DA C X W [a, b, c] m) (hs : starEach [a, b, c] X.env = (false, eval a X.env) :: starEach [b, c] X.env := by rfl) (hpl : (backTo pos (starEach [b, c] X.env)).any (·.1) = false := by rfl) :
    DIS C X W tg (.Call (.Name "range" p) [a, b, c] [] pos) (fun S => (m S).bind rng3) := by
  obtain ⟨ta, pa, ka⟩ := ha.ex
  refine .of ⟨_, pi_range3 hg hm pa hs hpl, fun F0 H0 F H σ S o Q q => ?_⟩
  refine ka _ _ _ _ _ _ o _ (PostA.to (gIS Q) q fun xs vs F1 H1 e1 w1 q1 => ?_)
  unfold rng3 at q1
  split at q1
  · rename_i i j k
    cases w1 with
    | cons w1 w2 =>
      obtain ⟨v, u, ev, wv, wu⟩ := w2.c2
      subst ev
      cases w1.isInt
      cases wv.isInt
      cases wu.isInt
      split at q1
      · rename_i c
        obtain ⟨c1, c2, c3, c4, c5⟩ := c
        subst c5
        exact ⟨i, j, -1, _, rfl, RgC.neg c1 c2 c3 c4, q1 _ F1 H1 (Ext.refl e1.fh) walk_rangeC⟩
      · exact q1.elim
  · exact q1.elim
/-! reversed(..) of a list -/
def revI : List D → R (List D)
  | [.lst ds] => .ok ds.reverse
  | _ => .bad
theorem walk_rev {K : PySem.W.Frag} {B F : Hp} {a : Addr} {vs : List V} {ds : List D} (h : B a = some (.lst vs)) (r : RpA K F vs ds) : Walk K (Itv K a vs.length) B F ds.reverse := by
  intro i H' e
  have hs : H' a = some (.lst vs) := e _ _ h
  refine ⟨fun d hd => ?_, fun hl => by rw [List.length_reverse, ← r.len] at hl; exact hl⟩
  have hi : i < ds.length := by have := (List.getElem?_eq_some_iff.mp hd).1; simpa using this
  rw [List.getElem?_reverse hi] at hd
  obtain ⟨v, hv, rv⟩ := r.getD hd
  rw [← r.len] at hv
  refine ⟨⟨by rw [r.len]; exact hi, vs, v, SqL.of hs, hv⟩, fun x H'' y => ⟨y.1, ?_⟩⟩
  have hx := y.2 vs (SqL.of hs)
  rw [hv] at hx
  cases hx
  exact rv
theorem dis_rev {m : List Sl → R (List D)} (hg : Gl X "reversed") (hm : X.mg "reversed" = none) (ha : DAR C X W [a] m) (hs : starEach [a] X.env = [(false, eval a X.env)] := by rfl) : DIS C X W tg (.Call (.Name "reversed" p) [a] [] pos) (fun S => (m S).bind revI) := by
  obtain ⟨ta, pa, ka⟩ := ha.ex
  refine .of ⟨_, pi_reversed hg hm pa hs, fun F0 H0 F H σ S o Q q => ?_⟩
  refine ka _ _ _ _ _ _ o _ (PostAR.to (gIS Q) q fun xs vs F1 H1 e1 w1 q1 => ?_)
  unfold revI at q1
  split at q1
  · rename_i ds
    cases w1 with
    | cons w1 w2 =>
      cases w2
      cases w1 with
      | lst ha ra => exact ⟨_, _, rfl, SqL.of (e1.fh _ _ ha), q1 _ F1 H1 (Ext.refl e1.fh) (walk_rev ha ra)⟩
  · exact q1.elim
end

/-! ### targets -/
inductive Tg where
  | one (j : Nat) | two (i j : Nat)
def Tg.g (K : PySem.W.Frag) : Tg → TG
  | .one j => gName j
  | .two i j => gTup K 2 (gCons (gName i) (gCons (gName j) gNil))
def Tg.slots : Tg → List Nat
  | .one j => [j]
  | .two i j => [i, j]
def pair? : D → Option (D × D)
  | .tup [x, y] => some (x, y)
  | _ => none
theorem pair_eq {d x y : D} (h : pair? d = some (x, y)) : d = .tup [x, y] := by
  unfold pair? at h
  split at h
  · cases h; rfl
  · cases h
def Tg.put : Tg → D → List Sl → R (List Sl)
  | .one j, d, S => .ok (S.set j (.fz d))
  | .two i j, d, S => match pair? d with
    | some (x, y) => .ok ((S.set i (.fz x)).set j (.fz y))
    | none => .bad
theorem wipe_set {σ : St} {v : Option V} {j : Nat} : ∀ {vs : List Nat}, j ∈ vs → wipe (σ.set j v) vs = wipe σ vs
  | [], h => by simp at h
  | k :: vs, h => by
    by_cases c : j ∈ vs
    · show (wipe (σ.set j v) vs).set k none = (wipe σ vs).set k none
      rw [wipe_set c]
    · have e : j = k := by
        rcases List.mem_cons.mp h with e | e
        · exact e
        · exact absurd e c
      subst e
      show (wipe (σ.set j v) vs).set j none = (wipe σ vs).set j none
      have q : ∀ (ws : List Nat) (τ : St), j ∉ ws → wipe (τ.set j v) ws = (wipe τ ws).set j v := by
        intro ws
        induction ws with
        | nil => intro τ _; rfl
        | cons w ws ih =>
          intro τ hn
          have h1 : j ≠ w := fun z => hn (by rw [z]; exact List.mem_cons_self)
          have h2 : j ∉ ws := fun z => hn (List.mem_cons_of_mem _ z)
          show (wipe (τ.set j v) ws).set w none = ((wipe τ ws).set w none).set j v
          rw [ih τ h2, List.set_comm _ _ h1]
      rw [q vs σ c, List.set_set]
theorem Tg.run {C : CL} {K : PySem.W.Frag} {F0 H0 F H : Hp} {σ : St} {S S' : List Sl} {t : Tg} {v : V} {d : D} (o : Ok C K F0 H0 F H σ S) (r : Rp K F v d) (hp : t.put d S = .ok S') {Q : St → Hp → Prop}
    (k : ∀ σ', Ok C K F0 H0 F H σ' S' → (∀ vs : List Nat, (∀ j ∈ t.slots, j ∈ vs) → wipe σ' vs = wipe σ vs) → Q σ' H) : t.g K v σ H Q := by
  cases t with
  | one j =>
    cases hp
    exact k _ (o.set (s := .fz d) rfl ⟨v, rfl, r⟩) fun vs hv => wipe_set (hv j (by simp [Tg.slots]))
  | two i j =>
    simp only [Tg.put] at hp
    cases hq : pair? d with
    | none => rw [hq] at hp; cases hp
    | some xy =>
      obtain ⟨x, y⟩ := xy
      rw [hq] at hp
      cases hp
      have ed := pair_eq hq
      subst ed
      cases r with
      | tup ha ra =>
        cases ra with
        | cons r1 r2 =>
          cases r2 with
          | cons r2 r3 =>
            cases r3
            refine ⟨_, _, rfl, SqT.of (o.sub _ _ ha), rfl, _, _, rfl, _, _, rfl, rfl, ?_⟩
            refine k _ ((o.set (s := .fz x) rfl ⟨_, rfl, r1⟩).set (s := .fz y) rfl ⟨_, rfl, r2⟩) fun vs hv => ?_
            rw [wipe_set (hv _ (by simp [Tg.slots])), wipe_set (hv _ (by simp [Tg.slots]))]
/-! ### list comprehensions -/
def wipeS (S : List Sl) : List Nat → List Sl
  | [] => S
  | v :: vs => (wipeS S vs).set v .un
theorem Ok.wipe {C : CL} {K : PySem.W.Frag} {F0 H0 F H : Hp} {σ : St} {S : List Sl} (o : Ok C K F0 H0 F H σ S) : ∀ vs : List Nat, Ok C K F0 H0 F H (wipe σ vs) (wipeS S vs)
  | [] => o
  | v :: vs => (Ok.wipe o vs).set rfl trivial
def lcM (t : Tg) (c : List Sl → R Bool) (m : List Sl → R D) (S : List Sl) : List D → R (List D)
  | [] => .ok []
  | d :: ds => (t.put d S).bind fun S1 => (c S1).calm.bind fun b => if b = true then (m S1).calm.bind fun y => (lcM t c m S ds).bind fun ys => .ok (y :: ys) else lcM t c m S ds
theorem calm_ok {α : Type} {r : R α} {x : α} (h : r.calm = .ok x) : r = .ok x := by
  cases r with
  | ok y => exact h
  | exc e => cases h
  | bad => cases h
theorem bind_ok {α β : Type} {r : R α} {f : α → R β} {y : β} (h : r.bind f = .ok y) : ∃ x, r = .ok x ∧ f x = .ok y := by
  cases r with
  | ok x => exact ⟨x, rfl, h⟩
  | exc e => cases h
  | bad => cases h
/-- W0: within a comprehension nothing is raised -/
abbrev W0 : WX := fun _ _ _ _ => False
def mYes (_ : List Sl) : R Bool := .ok true
structure DTs (C : CL) (X : Cx) (W : WX) (ifs : List Expr) (m : List Sl → R Bool) : Prop where
  run : PTs X ifs (cT C X.K W m)
def mLc (t : Tg) (vs : List Nat) (mi : List Sl → R (List D)) (c : List Sl → R Bool) (m : List Sl → R D) (S : List Sl) : R (List D) := (mi S).bind fun ds => if ds.length ≤ sizeLine then (match lcM t c m (wipeS S vs) ds with | .ok ys => .ok ys | _ => .bad) else .bad
/-- what is made so far -/
theorem lc_run {C : CL} {K : PySem.W.Frag} {t : Tg} {c : List Sl → R Bool} {m : List Sl → R D} {vs : List Nat} {J : It} {F0 H0 F1 H1 : Hp} {σ : St} {S : List Sl} {ds ys : List D} {Dl : Addr} {Q : Hp → Prop}
    (o : Ok C K F0 H0 F1 H1 σ S) (w : Walk K J H1 F1 ds) (hl : ds.length ≤ sizeLine) (hd : H1 Dl = none) (hv : ∀ j ∈ t.slots, j ∈ vs) (hm : lcM t c m (wipeS S vs) ds = .ok ys)
    (q : ∀ F' H' ws, Ext F1 H1 F' H' → F' Dl = none → H' Dl = some (.lst ws) → RpA K F' ws ys → Q H') :
    ∃ Wm : Nat → Nat → Hp → Prop, (∃ n, Wm 0 n (upd H1 Dl (.lst []))) ∧ ∀ i n H, Wm i n H →
      (J.stop i H ∧ Q H) ∨ (J.go i H ∧ ∃ Nx : Hp → Prop, (∀ H', Nx H' → ∃ n', n' < n ∧ Wm (i + 1) n' H') ∧ ∀ x H', J.yld i H x H' → t.g K x (wipe σ vs) H' fun σ2 H2 => wipe σ2 vs = wipe σ vs ∧ cT C K W0 c σ2 H2 fun b H3 =>
        if b = true then cE C K W0 m σ2 H3 fun y H4 => ∃ acc, H4 Dl = some (.lst acc) ∧ acc.length < sizeLine ∧ Nx (upd H4 Dl (.lst (acc ++ [y]))) else Nx H3) := by
  refine ⟨fun i n H => n = ds.length - i ∧ i ≤ ds.length ∧ ∃ F ws done rest, Ext F1 H1 F H ∧ F Dl = none ∧ H Dl = some (.lst ws) ∧ RpA K F ws done ∧ ws.length ≤ i ∧ lcM t c m (wipeS S vs) (ds.drop i) = .ok rest ∧ ys = done ++ rest, ⟨ds.length, rfl, Nat.zero_le _, F1, [], [], ys, Ext.newO o.sub hd, none_of o.sub hd, upd_same, .nil, Nat.le_refl _, by simpa using hm, rfl⟩, ?_⟩
  rintro i n H ⟨rfl, hi, F, ws, done, rest, e, fd, hw, ra, hwl, hr, hy⟩
  obtain ⟨w1, w2⟩ := w i H e.hh
  by_cases hlt : i < ds.length
  · have hd1 : ds[i]? = some ds[i] := List.getElem?_eq_getElem hlt
    obtain ⟨g1, g2⟩ := w1 _ hd1
    refine .inr ⟨g1, fun H' => ∃ F ws done rest, Ext F1 H1 F H' ∧ F Dl = none ∧ H' Dl = some (.lst ws) ∧ RpA K F ws done ∧ ws.length ≤ i + 1 ∧ lcM t c m (wipeS S vs) (ds.drop (i + 1)) = .ok rest ∧ ys = done ++ rest, fun H' h => ⟨ds.length - (i + 1), by omega, rfl, hlt, h⟩, fun x H' y => ?_⟩
    obtain ⟨eH, rx⟩ := g2 x H' y
    subst eH
    rw [List.drop_eq_getElem_cons hlt] at hr
    unfold lcM at hr
    obtain ⟨S1, p1, hr⟩ := bind_ok hr
    refine Tg.run (((o.up e).wipe vs)) (rx.up e.ff) p1 fun σ2 o2 hwp => ⟨?_, ?_⟩
    · have z := hwp vs hv
      have zz : ∀ us : List Nat, (∀ j ∈ us, j ∈ vs) → wipe (wipe σ us) vs = wipe σ vs := by
        intro us
        induction us with
        | nil => intro _; rfl
        | cons u us ih =>
          intro hu
          show wipe ((wipe σ us).set u none) vs = wipe σ vs
          rw [wipe_set (hu u List.mem_cons_self), ih fun j hj => hu j (List.mem_cons_of_mem _ hj)]
      rw [z, zz vs fun j hj => hj]
    · obtain ⟨b, hb, hr⟩ := bind_ok hr
      refine ⟨_, _, _, S1, o2, ?_⟩
      rw [calm_ok hb]
      intro F3 H3 e3
      cases b with
      | true =>
        rw [if_pos rfl] at hr
        show cE C K W0 m σ2 H3 _
        obtain ⟨yd, hyd, hr⟩ := bind_ok hr
        obtain ⟨rest', hr1, hr2⟩ := bind_ok hr
        cases hr2
        refine ⟨_, _, _, S1, o2.up e3, ?_⟩
        rw [calm_ok hyd]
        intro v F4 H4 e4 rv
        have e14 : Ext F1 H1 F4 H4 := (e.trans e3).trans e4
        have h4 : H4 Dl = some (.lst ws) := e4.hh _ _ (e3.hh _ _ hw)
        have f4 : F4 Dl = none := (e4.old Dl _ (e3.hh _ _ hw) rfl).trans ((e3.old Dl _ hw rfl).trans fd)
        refine ⟨ws, h4, by omega, F4, ws ++ [v], done ++ [yd], rest', ?_, f4, upd_same, ((ra.up e3.ff).up e4.ff).app (.one rv), by simp; omega, hr1, by rw [hy]; simp⟩
        refine ⟨e14.ff, fun a u ha => ?_, fun a u ha => ?_, e14.old⟩
        · have na : a ≠ Dl := fun z => by rw [z, f4] at ha; cases ha
          rw [upd_ne na]; exact e14.fh _ _ ha
        · have na : a ≠ Dl := fun z => by rw [z, hd] at ha; cases ha
          rw [upd_ne na]; exact e14.hh _ _ ha
      | false =>
        rw [if_neg Bool.false_ne_true] at hr
        rw [if_neg Bool.false_ne_true]
        exact ⟨F3, ws, done, rest, e.trans e3, (e3.old Dl _ hw rfl).trans fd, e3.hh _ _ hw, ra.up e3.ff, by omega, hr, hy⟩
  · have ei : i = ds.length := by omega
    subst ei
    rw [List.drop_length] at hr
    cases hr
    rw [List.append_nil] at hy
    subst hy
    exact .inl ⟨w2 (Nat.le_refl _), q F H ws e fd hw ra⟩
section
variable {C : CL} {X : Cx} {W : WX} {tg e iter elt : Expr} {ifs : List Expr} {pos : Pos}
theorem dts_nil : DTs C X W [] mYes := ⟨⟨fun pins s σ H Q I ⟨F0, H0, F, S, o, q⟩ => pts_nil.run pins s σ H Q I (q F H (Ext.refl o.sub))⟩⟩
theorem dts_one {c : Expr} {m : List Sl → R Bool} (h : DT C X W c m) : DTs C X W [c] m := ⟨pts_one h.run⟩
theorem dn_lc {scope : Scope} {own : List (Str × Nat)} {t : Tg} {mi : List Sl → R (List D)} {c : List Sl → R Bool} {m : List Sl → R D} (hc : X.calm = true) (hN : X.N.Nodup) (hi : DI C X W tg iter mi) (ok : blkC X.N X.env.scope scope own = true)
    (hv : ∀ j ∈ t.slots, j ∈ own.map (·.2))
    (hg : ∀ (s : Shared) (H : Hp) (Ca : Addr) (cl : List (Str × Addr)) (fp : List Addr), PG (X.blk s H scope (compEnvC scope cl Ca X.env) fp) tg (t.g X.K))
    (ht : ∀ (s : Shared) (H : Hp) (Ca : Addr) (cl : List (Str × Addr)) (fp : List Addr), DTs C (X.blk s H scope (compEnvC scope cl Ca X.env) fp) W0 ifs c)
    (he : ∀ (s : Shared) (H : Hp) (Ca : Addr) (cl : List (Str × Addr)) (fp : List Addr), DE C (X.blk s H scope (compEnvC scope cl Ca X.env) fp) W0 elt m) (hs : ∀ x, foldedSetIterable iter X.env x = pure x := by intro _; rfl) :
    DN C X W (.ListComp elt [⟨tg, iter, ifs, 0⟩] scope pos) (mLc t (own.map (·.2)) mi c m) := by
  obtain ⟨ti, pi, ki⟩ := hi.ex
  refine .of ⟨_, pe_lc (te := cE C X.K W0 m) (tt := cT C X.K W0 c) hc hN pi (blkOk_by ok) hg (fun s H Ca cl fp => (ht s H Ca cl fp).run) (fun s H Ca cl fp => (he s H Ca cl fp).run) hs, fun F0 H0 F H σ S o Q q => ?_⟩
  refine ki _ _ _ _ _ _ o _ ?_
  unfold mLc at q
  cases hm : mi S with
  | ok ds =>
    rw [hm] at q
    intro J F1 H1 e1 w1 Dl hd
    simp only [R.bind_ok] at q
    by_cases hl : ds.length ≤ sizeLine
    · rw [if_pos hl] at q
      cases hlc : lcM t c m (wipeS S (own.map (·.2))) ds with
      | ok ys =>
        rw [hlc] at q
        exact lc_run (o.up e1) w1 hl hd hv hlc fun F' H' ws e2 fd hw ra => q Dl ws F' H' (e1.trans e2) (e1.hh.free hd) fd hw ra
      | exc x => rw [hlc] at q; exact q.elim
      | bad => rw [hlc] at q; exact q.elim
    · rw [if_neg hl] at q; exact q.elim
  | exc x => rw [hm] at q; exact q
  | bad => rw [hm] at q; exact q.elim
end
end DL
/-! The data layer, part F: statements, defs. -/
namespace DL
open PySem L2
open PyProof.Rows (envOfC)

/-- rt: a value comes back; rs: a value, and what the params are now; rl, rd: a list, a dict of one's own -/
inductive SO where
  | nx (S : List Sl) | rt (d : D) | bk (S : List Sl) | ct (S : List Sl) | ex (e : Exn) (S : List Sl) | bad | rs (d : D) (S : List Sl) | rl (ds : List D) | rd (es : List (Int × D))
def PostS (C : CL) (K : PySem.W.Frag) (W : WX) (F0 H0 : Hp) (r : SO) (E : Ends) : Prop := match r with
  | .nx S => ∀ σ F H, Ok C K F0 H0 F H σ S → E.nx σ H
  | .rt d => ∀ v F H, Ext F0 H0 F H → Rp K F v d → E.rt v H
  | .bk S => ∀ σ F H, Ok C K F0 H0 F H σ S → E.bk σ H
  | .ct S => ∀ σ F H, Ok C K F0 H0 F H σ S → E.ct σ H
  | .ex e S => ∀ σ F H, Ok C K F0 H0 F H σ S → Wish C W σ F H e
  | .bad => False
  | .rs d S => ∀ σ v F H, Ok C K F0 H0 F H σ S → Rp K F v d → E.rt v H
  | .rl ds => ∀ p vs F H, Ext F0 H0 F H → H0 p = none → F p = none → H p = some (.lst vs) → RpA K F vs ds → E.rt (.ref p) H
  | .rd es => ∀ p vs F H, Ext F0 H0 F H → H0 p = none → F p = none → H p = some (.dK vs) → RpK K F vs es → E.rt (.ref p) H
def cS (C : CL) (K : PySem.W.Frag) (W : WX) (m : List Sl → SO) : TS := fun E σ H => ∃ F0 H0 F S, Ok C K F0 H0 F H σ S ∧ PostS C K W F0 H0 (m S) E
structure DS (C : CL) (X : Cx) (W : WX) (st : Stmt) (m : List Sl → SO) : Prop where
  run : PS X st (cS C X.K W m)
structure DSs (C : CL) (X : Cx) (W : WX) (st : List Stmt) (m : List Sl → SO) : Prop where
  run : PSs X st (cS C X.K W m)
section
variable {C : CL} {X : Cx} {W : WX} {st : Stmt} {sts : List Stmt}
theorem DS.of {m : List Sl → SO} (h : ∃ t, PS X st t ∧ ∀ F0 H0 F H σ S, Ok C X.K F0 H0 F H σ S → ∀ E, PostS C X.K W F0 H0 (m S) E → t E σ H) : DS C X W st m := by
  obtain ⟨t, p, k⟩ := h
  exact ⟨⟨fun pins s σ H E I ⟨F0, H0, F, S, o, q⟩ => p.run pins s σ H E I (k F0 H0 F H σ S o E q)⟩⟩
theorem DSs.of {m : List Sl → SO} (h : ∃ t, PSs X sts t ∧ ∀ F0 H0 F H σ S, Ok C X.K F0 H0 F H σ S → ∀ E, PostS C X.K W F0 H0 (m S) E → t E σ H) : DSs C X W sts m := by
  obtain ⟨t, p, k⟩ := h
  exact ⟨⟨fun pins s σ H E I ⟨F0, H0, F, S, o, q⟩ => p.run pins s σ H E I (k F0 H0 F H σ S o E q)⟩⟩
end
/-- what an expression gives, into a statement's end -/
def toS (r : R D) (S : List Sl) (k : D → SO) : SO := match r with
  | .ok d => k d
  | .exc e => .ex e S
  | .bad => .bad
def toSL {α : Type} (r : R α) (S : List Sl) (k : α → SO) : SO := match r with
  | .ok d => k d
  | .exc e => .ex e S
  | .bad => .bad
@[simp] theorem toS_ok (d : D) (S : List Sl) (k : D → SO) : toS (.ok d) S k = k d := id rfl
@[simp] theorem toS_exc (e : Exn) (S : List Sl) (k : D → SO) : toS (.exc e) S k = .ex e S := id rfl
@[simp] theorem toSL_ok {α : Type} (d : α) (S : List Sl) (k : α → SO) : toSL (.ok d) S k = k d := id rfl
@[simp] theorem toSL_exc {α : Type} (e : Exn) (S : List Sl) (k : α → SO) : toSL (.exc e) S k = .ex e S := id rfl
section
variable {C : CL} {K : PySem.W.Frag} {W : WX} {F0 H0 F H : Hp} {σ : St} {S : List Sl} {E : Ends}
theorem Post.ofS {r : R D} {k : D → SO} {Q : VK} (o : Ok C K F0 H0 F H σ S) (h : PostS C K W F0 H0 (toS r S k) E) (f : ∀ d v F1 H1, Ext F H F1 H1 → Ok C K F0 H0 F1 H1 σ S → Rp K F1 v d → PostS C K W F0 H0 (k d) E → Q v H1) : Post C K W σ F H r Q := by
  cases r with
  | ok d => exact fun v F1 H1 e r => f d v F1 H1 e (o.up e) r h
  | exc e => exact h σ F H o
  | bad => exact h
theorem PostV.ofS {r : R D} {k : D → SO} {Q : VK} (o : Ok C K F0 H0 F H σ S) (h : PostS C K W F0 H0 (toS r S k) E) (f : ∀ d v F1 H1, Ext F H F1 H1 → Ok C K F0 H0 F1 H1 σ S → Vw K F1 H1 v d → PostS C K W F0 H0 (k d) E → Q v H1) : PostV C K W σ F H r Q := by
  cases r with
  | ok d => exact fun v F1 H1 e r => f d v F1 H1 e (o.up e) r h
  | exc e => exact h σ F H o
  | bad => exact h
theorem PostT.ofS {r : R Bool} {k : Bool → SO} {Q : Bool → Hp → Prop} (o : Ok C K F0 H0 F H σ S) (h : PostS C K W F0 H0 (toSL r S k) E) (f : ∀ b F1 H1, Ext F H F1 H1 → Ok C K F0 H0 F1 H1 σ S → PostS C K W F0 H0 (k b) E → Q b H1) : PostT C K W σ F H r Q := by
  cases r with
  | ok d => exact fun F1 H1 e => f d F1 H1 e (o.up e) h
  | exc e => exact h σ F H o
  | bad => exact h
theorem PostN.ofS {r : R (List D)} {k : List D → SO} {Q : VK} (o : Ok C K F0 H0 F H σ S) (h : PostS C K W F0 H0 (toSL r S k) E) (f : ∀ ds p vs F1 H1, Ext F H F1 H1 → Ok C K F0 H0 F1 H1 σ S → H p = none → F1 p = none → H1 p = some (.lst vs) → RpA K F1 vs ds → PostS C K W F0 H0 (k ds) E → Q (.ref p) H1) : PostN C K W σ F H r Q := by
  cases r with
  | ok d => exact fun p vs F1 H1 e h0 hf hp ra => f d p vs F1 H1 e (o.up e) h0 hf hp ra h
  | exc e => exact h σ F H o
  | bad => exact h
theorem PostND.ofS {r : R (List (Int × D))} {k : List (Int × D) → SO} {Q : VK} (o : Ok C K F0 H0 F H σ S) (h : PostS C K W F0 H0 (toSL r S k) E) (f : ∀ ds p vs F1 H1, Ext F H F1 H1 → Ok C K F0 H0 F1 H1 σ S → H p = none → F1 p = none → H1 p = some (.dK vs) → RpK K F1 vs ds → PostS C K W F0 H0 (k ds) E → Q (.ref p) H1) : PostND C K W σ F H r Q := by
  cases r with
  | ok d => exact fun p vs F1 H1 e h0 hf hp ra => f d p vs F1 H1 e (o.up e) h0 hf hp ra h
  | exc e => exact h σ F H o
  | bad => exact h
theorem PostIS.ofS {r : R (List D)} {k : List D → SO} {Q : It → Hp → Prop} (o : Ok C K F0 H0 F H σ S) (h : PostS C K W F0 H0 (toSL r S k) E) (f : ∀ ds J F1 H1, Ext F H F1 H1 → Ok C K F0 H0 F1 H1 σ S → Walk K J F1 F1 ds → PostS C K W F0 H0 (k ds) E → Q J H1) : PostIS C K W σ F H r Q := by
  cases r with
  | ok d => exact fun J F1 H1 e w => f d J F1 H1 e (o.up e) w h
  | exc e => exact h σ F H o
  | bad => exact h
/-- a list, a dict of one's own is known to all from now on -/
theorem Ok.frzL {i : Nat} {ds : List D} (o : Ok C K F0 H0 F H σ S) (hd : S[i]? = some (.ol ds)) : ∃ F', Same F F' ∧ Ok C K F0 H0 F' H σ (S.set i (.fz (.lst ds))) := by
  obtain ⟨v, h1, _⟩ := o.at hd
  refine o.frz hd h1 fun O hO ⟨p, vs, e, h2, h4, h5⟩ => ?_
  subst e
  have h3 := (hO _ _ h2).1
  refine ⟨upd F p (.lst vs), same_new h3, fun a u h => ?_, fun a u h n _ => ?_, _, rfl, .lst upd_same (h5.up (same_new h3))⟩
  · by_cases e : a = p
    · subst e; rw [upd_same] at h; cases h; exact h4
    · rw [upd_ne e] at h; exact o.sub _ _ h
  · by_cases e : a = p
    · subst e; exact ⟨0, h2⟩
    · rw [upd_ne e, n] at h; cases h
theorem Ok.frzD {i : Nat} {ds : List (Int × D)} (o : Ok C K F0 H0 F H σ S) (hd : S[i]? = some (.od ds)) : ∃ F', Same F F' ∧ Ok C K F0 H0 F' H σ (S.set i (.fz (.dct ds))) := by
  obtain ⟨v, h1, _⟩ := o.at hd
  refine o.frz hd h1 fun O hO ⟨p, vs, e, h2, h4, h5⟩ => ?_
  subst e
  have h3 := (hO _ _ h2).1
  refine ⟨upd F p (.dK vs), same_new h3, fun a u h => ?_, fun a u h n _ => ?_, _, rfl, .dct (.inl upd_same) (h5.up (same_new h3))⟩
  · by_cases e : a = p
    · subst e; rw [upd_same] at h; cases h; exact h4
    · rw [upd_ne e] at h; exact o.sub _ _ h
  · by_cases e : a = p
    · subst e; exact ⟨0, h2⟩
    · rw [upd_ne e, n] at h; cases h
def grpD (b : Bool) (g : Int × List Int) : D := if b then .lst [.int g.1, .lst (g.2.map D.int)] else .tup [.int g.1, .lst (g.2.map D.int)]
/-- an object is learnt -/
def learn (G : Hp) (a : Addr) (u : HO) : Hp := fun c => if c = a then some u else G c
theorem learn_at {G : Hp} {a : Addr} {u : HO} : learn G a u a = some u := if_pos rfl
theorem learn_same {G H : Hp} {a : Addr} {u : HO} (s : Same G H) (h : H a = some u) : Same G (learn G a u) := fun c w hc => by
  unfold learn
  by_cases e : c = a
  · subst e; rw [if_pos rfl]; have := s _ _ hc; rw [h] at this; exact this
  · rw [if_neg e]; exact hc
theorem learn_sub {G H : Hp} {a : Addr} {u : HO} (s : Same G H) (h : H a = some u) : Same (learn G a u) H := fun c w hc => by
  unfold learn at hc
  by_cases e : c = a
  · subst e; rw [if_pos rfl] at hc; cases hc; exact h
  · rw [if_neg e] at hc; exact s _ _ hc
theorem learn_inv {G : Hp} {a c : Addr} {u w : HO} (h : learn G a u c = some w) : (c = a ∧ w = u) ∨ G c = some w := by
  unfold learn at h
  by_cases e : c = a
  · subst e; rw [if_pos rfl] at h; cases h; exact .inl ⟨rfl, rfl⟩
  · rw [if_neg e] at h; exact .inr h
theorem gs_known {O : Addr → Nat → Prop} {b : Bool} {n : Nat} {ts : List V} {gs : List (Int × List Int)} (hg : GsR H O b n ts gs) : ∀ F1 : Hp, Same F F1 → Same F1 H → (∀ a u, F1 a = some u → F a = none → notTup u = true → ∃ n, O a n) →
    ∃ F', Same F1 F' ∧ Same F' H ∧ (∀ a u, F' a = some u → F a = none → notTup u = true → ∃ n, O a n) ∧ RpA K F' ts (gs.map (grpD b)) := by
  induction hg with
  | nil => exact fun F1 a1 a2 a3 => ⟨F1, Same.refl _, a2, a3, .nil⟩
  | @cons n t q k hs ts gs g1 g2 g3 g4 _ ih =>
    intro F1 a1 a2 a3
    have s2 := learn_same a2 g4
    have s2H := learn_sub a2 g4
    have s3 := learn_same s2H g1
    have s3H := learn_sub s2H g1
    obtain ⟨F', b1, b2, b3, b4⟩ := ih _ ((a1.trans s2).trans s3) s3H (by
      intro a u h hn ht
      rcases learn_inv h with ⟨e1, e2⟩ | h
      · subst e1 e2
        cases b with
        | true => exact ⟨_, g2 rfl⟩
        | false => cases ht
      · rcases learn_inv h with ⟨e1, e2⟩ | h
        · subst e1; exact ⟨_, g3⟩
        · exact a3 a u h hn ht)
    have ht := b1 _ _ (learn_at (G := learn F1 q (.lst (hs.map V.int))) (a := t))
    have hq := b1 _ _ (s3 _ _ (learn_at (G := F1) (a := q)))
    refine ⟨F', ((s2.trans s3).trans b1), b2, b3, .cons ?_ b4⟩
    have pair : RpA K F' [.int k, .ref q] [.int k, .lst (hs.map D.int)] := .cons (.int k) (.cons (.lst hq (rp_ints hs)) .nil)
    cases b with
    | true => exact .lst ht pair
    | false => exact .tup ht pair
/-- groups are known to all from now on -/
theorem Ok.frzG {i : Nat} {b : Bool} {gs : List (Int × List Int)} (o : Ok C K F0 H0 F H σ S) (hd : S[i]? = some (.og b gs)) : ∃ F', Same F F' ∧ Ok C K F0 H0 F' H σ (S.set i (.fz (.lst (gs.map (grpD b))))) := by
  obtain ⟨v, hv⟩ : ∃ v, σ[i]? = some v := by obtain ⟨v, h, _⟩ := o.at hd; exact ⟨v, h⟩
  refine o.frz hd hv fun O hO ⟨p, ts, e, h2, h3, h4⟩ => ?_
  subst e
  obtain ⟨F2, c1, c2, c3, c4⟩ := gs_known (K := K) h4 F (Same.refl _) o.sub (fun a u h n => by rw [n] at h; cases h)
  refine ⟨learn F2 p (.lst ts), c1.trans (learn_same c2 h3), learn_sub c2 h3, fun a u h n ht => ?_, _, rfl, .lst learn_at (c4.up (learn_same c2 h3))⟩
  rcases learn_inv h with ⟨e1, e2⟩ | h
  · subst e1; exact ⟨0, h2⟩
  · exact c3 a u h n ht
end

/-! ### one after another -/
def mSeq (a b : List Sl → SO) (S : List Sl) : SO := match a S with
  | .nx S' => b S'
  | r => r
def mSkip (S : List Sl) : SO := .nx S
section
variable {C : CL} {X : Cx} {W : WX} {st : Stmt} {sts : List Stmt} {e : Expr} {pos pos' : Pos} {x : Str}
theorem dss_nil : DSs C X W [] mSkip := .of ⟨_, pss_nil, fun F0 H0 F H σ S o E q => q σ F H o⟩
theorem dss_one {m : List Sl → SO} (h : DS C X W st m) : DSs C X W [st] m := ⟨pss_one h.run⟩
theorem PostS.seq {K : PySem.W.Frag} {F0 H0 : Hp} {a b : List Sl → SO} {S : List Sl} {E : Ends} (q : PostS C K W F0 H0 (mSeq a b S) E) : PostS C K W F0 H0 (a S) { E with nx := cS C K W b E } := by
  unfold mSeq at q
  cases h : a S with
  | nx S' => rw [h] at q; exact fun σ F H o => ⟨F0, H0, F, S', o, q⟩
  | rt d => rw [h] at q; exact q
  | bk S' => rw [h] at q; exact q
  | ct S' => rw [h] at q; exact q
  | ex e S' => rw [h] at q; exact q
  | bad => rw [h] at q; exact q
  | rs d S' => rw [h] at q; exact q
  | rl d => rw [h] at q; exact q
  | rd d => rw [h] at q; exact q
theorem dss_cons {a b : List Sl → SO} (ha : DS C X W st a) (hb : DSs C X W sts b) : DSs C X W (st :: sts) (mSeq a b) := by
  refine .of ⟨_, pss_cons ha.run hb.run, fun F0 H0 F H σ S o E q => ?_⟩
  exact ⟨F0, H0, F, S, o, q.seq⟩
/-- a step of the proof's own: an object of one's own is known to all -/
def mFrz (i : Nat) (S : List Sl) : SO := match S[i]? with
  | some (.ol ds) => .nx (S.set i (.fz (.lst ds)))
  | some (.od es) => .nx (S.set i (.fz (.dct es)))
  | some (.og b gs) => .nx (S.set i (.fz (.lst (gs.map (grpD b)))))
  | some (.fz d) => .nx S
  | _ => .bad
theorem dss_frz {i : Nat} {b : List Sl → SO} (hb : DSs C X W sts b) : DSs C X W sts (mSeq (mFrz i) b) := by
  refine .of ⟨_, hb.run, fun F0 H0 F H σ S o E q => ?_⟩
  unfold mSeq mFrz at q
  split at q
  · rename_i S' h
    split at h
    · rename_i ds hd
      cases h
      obtain ⟨F', _, o'⟩ := o.frzL hd
      exact ⟨F0, H0, F', _, o', q⟩
    · rename_i ds hd
      cases h
      obtain ⟨F', _, o'⟩ := o.frzD hd
      exact ⟨F0, H0, F', _, o', q⟩
    · rename_i b gs hd
      cases h
      obtain ⟨F', _, o'⟩ := o.frzG hd
      exact ⟨F0, H0, F', _, o', q⟩
    · cases h
      exact ⟨F0, H0, F, S, o, q⟩
    · cases h
  · rename_i r h
    exfalso
    revert h q
    split <;> intro h q <;> first | exact h _ rfl | exact q

/-! ### assignments -/
def mSet (i : Nat) (m : List Sl → R D) (S : List Sl) : SO := toS (m S) S fun d => .nx (S.set i (.fz d))
def mSetN (i : Nat) (m : List Sl → R (List D)) (S : List Sl) : SO := toSL (m S) S fun d => .nx (S.set i (.ol d))
def mSetND (i : Nat) (m : List Sl → R (List (Int × D))) (S : List Sl) : SO := toSL (m S) S fun d => .nx (S.set i (.od d))
theorem ds_asg {i : Nat} {m : List Sl → R D} (h : PS X st (tAsg (cE C X.K W m) (gName i))) : DS C X W st (mSet i m) := by
  refine .of ⟨_, h, fun F0 H0 F H σ S o E q => ?_⟩
  refine ⟨F0, H0, F, S, o, Post.ofS o q fun d v F1 H1 e1 o1 r1 q1 => ?_⟩
  exact q1 _ F1 H1 (o1.set (s := .fz d) rfl ⟨v, rfl, r1⟩)
theorem ds_asgN {i : Nat} {m : List Sl → R (List D)} (h : PS X st (tAsg (cN C X.K W m) (gName i))) : DS C X W st (mSetN i m) := by
  refine .of ⟨_, h, fun F0 H0 F H σ S o E q => ?_⟩
  refine ⟨F0, H0, F, S, o, PostN.ofS o q fun ds p vs F1 H1 e1 o1 h0 hf hp ra q1 => ?_⟩
  exact q1 _ F1 H1 (o.setO (s := .ol ds) e1 h0 hf (.inl ⟨ds, rfl⟩) ⟨p, vs, rfl, hf, hp, ra⟩)
theorem ds_asgND {i : Nat} {m : List Sl → R (List (Int × D))} (h : PS X st (tAsg (cND C X.K W m) (gName i))) : DS C X W st (mSetND i m) := by
  refine .of ⟨_, h, fun F0 H0 F H σ S o E q => ?_⟩
  refine ⟨F0, H0, F, S, o, PostND.ofS o q fun ds p vs F1 H1 e1 o1 h0 hf hp ra q1 => ?_⟩
  exact q1 _ F1 H1 (o.setO (s := .od ds) e1 h0 hf (.inr ⟨ds, rfl⟩) ⟨p, vs, rfl, hf, hp, ra⟩)
theorem ds_set {i : Nat} {m : List Sl → R D} (hN : X.N.Nodup) (hi : X.N[i]? = some x) (hx : Loc X.env.scope x) (he : DE C X W e m) (hs : swapsWith e (some (.Name x pos')) pos.line X.env = pure false := by rfl)
    (hf : X.fn x = true ∨ X.env.scope.names.lookup x = some .local := by first | exact .inl rfl | exact .inr rfl | assumption) : DS C X W (.Assign [.Name x pos'] e pos) (mSet i m) := ds_asg (ps_set hN hi hx he.run hs hf)
theorem ds_setN {i : Nat} {m : List Sl → R (List D)} (hN : X.N.Nodup) (hi : X.N[i]? = some x) (hx : Loc X.env.scope x) (he : DN C X W e m) (hs : swapsWith e (some (.Name x pos')) pos.line X.env = pure false := by rfl)
    (hf : X.fn x = true ∨ X.env.scope.names.lookup x = some .local := by first | exact .inl rfl | exact .inr rfl | assumption) : DS C X W (.Assign [.Name x pos'] e pos) (mSetN i m) := ds_asgN (ps_set hN hi hx he.run hs hf)
theorem ds_setND {i : Nat} {m : List Sl → R (List (Int × D))} (hN : X.N.Nodup) (hi : X.N[i]? = some x) (hx : Loc X.env.scope x) (he : DND C X W e m) (hs : swapsWith e (some (.Name x pos')) pos.line X.env = pure false := by rfl)
    (hf : X.fn x = true ∨ X.env.scope.names.lookup x = some .local := by first | exact .inl rfl | exact .inr rfl | assumption) : DS C X W (.Assign [.Name x pos'] e pos) (mSetND i m) := ds_asgND (ps_set hN hi hx he.run hs hf)
/-- y = [.. for ..], y plain -/
theorem ps_lcN {i : Nat} {y : Str} {py spos : Pos} {tg iter elt : Expr} {ifs : List Expr} {scope : Scope} {own : List (Str × Nat)} {t : Tg} {mi : List Sl → R (List D)} {c : List Sl → R Bool} {m : List Sl → R D} (hc : X.calm = true) (hN : X.N.Nodup)
    (hy : X.N[i]? = some y) (hyl : X.env.scope.names.lookup y = some .local) (hsw : swapsWith (.ListComp elt [⟨tg, iter, ifs, 0⟩] scope pos) (some (.Name y py)) spos.line X.env = pure true) (hi : DI C X W tg iter mi) (ok : blkC X.N X.env.scope scope own = true)
    (hv : ∀ j ∈ t.slots, j ∈ own.map (·.2))
    (hg : ∀ (s : Shared) (H : Hp) (Ca : Addr) (cl : List (Str × Addr)) (fp : List Addr), PG (X.blk s H scope (compEnvC scope cl Ca X.env) fp) tg (t.g X.K))
    (ht : ∀ (s : Shared) (H : Hp) (Ca : Addr) (cl : List (Str × Addr)) (fp : List Addr), DTs C (X.blk s H scope (compEnvC scope cl Ca X.env) fp) W0 ifs c)
    (he : ∀ (s : Shared) (H : Hp) (Ca : Addr) (cl : List (Str × Addr)) (fp : List Addr), DE C (X.blk s H scope (compEnvC scope cl Ca X.env) fp) W0 elt m) (hs : ∀ x, foldedSetIterable iter X.env x = pure x := by intro _; rfl) :
    PS X (.Assign [.Name y py] (.ListComp elt [⟨tg, iter, ifs, 0⟩] scope pos) spos) (tAsg (cN C X.K W (mLc t (own.map (·.2)) mi c m)) (gName i)) := by
  obtain ⟨ti, pi, ki⟩ := hi.ex
  have P := ps_setLc (te := cE C X.K W0 m) (tt := cT C X.K W0 c) hc hN hy hyl hsw pi (blkOk_by ok) hg (fun s H Ca cl fp => (ht s H Ca cl fp).run) (fun s H Ca cl fp => (he s H Ca cl fp).run) hs
  refine ⟨fun pins s σ H E I h => P.run pins s σ H E I ?_⟩
  obtain ⟨F0, H0, F, S, o, q⟩ := h
  refine ki _ _ _ _ _ _ o _ ?_
  unfold mLc at q
  cases hm : mi S with
  | ok ds =>
    rw [hm] at q
    intro J F1 H1 e1 w1 Dl hd
    simp only [R.bind_ok] at q
    by_cases hl : ds.length ≤ sizeLine
    · rw [if_pos hl] at q
      cases hlc : lcM t c m (wipeS S (own.map (·.2))) ds with
      | ok ys =>
        rw [hlc] at q
        exact lc_run (o.up e1) w1 hl hd hv hlc fun F' H' ws e2 fd hw ra => q Dl ws F' H' (e1.trans e2) (e1.hh.free hd) fd hw ra
      | exc x => rw [hlc] at q; exact q.elim
      | bad => rw [hlc] at q; exact q.elim
    · rw [if_neg hl] at q; exact q.elim
  | exc x => rw [hm] at q; exact q
  | bad => rw [hm] at q; exact q.elim
/-- .. known to all -/
theorem ps_N_E {i : Nat} {m : List Sl → R (List D)} (h : PS X st (tAsg (cN C X.K W m) (gName i))) : PS X st (tAsg (cE C X.K W (fun S => (m S).bind fun ds => .ok (.lst ds))) (gName i)) :=
  ⟨fun pins s σ H E I ⟨F0, H0, F, S, o, q⟩ => h.run pins s σ H E I ⟨F0, H0, F, S, o, PostN.of_post q⟩⟩

/-! ### return, expressions, if -/
def mRet (m : List Sl → R D) (S : List Sl) : SO := toS (m S) S fun d => .rt d
theorem ds_ret {m : List Sl → R D} (he : DE C X W e m) : DS C X W (.Return (some e) pos) (mRet m) := by
  obtain ⟨t, p, k⟩ := he.ex
  refine .of ⟨_, ps_ret p, fun F0 H0 F H σ S o E q => k _ _ _ _ _ _ o _ (Post.ofS o q fun d v F1 H1 e1 o1 r1 q1 => ?_)⟩
  exact q1 v F1 H1 o1.ext r1
def mDrop (m : List Sl → R D) (S : List Sl) : SO := toS (m S) S fun _ => .nx S
theorem ds_drop {m : List Sl → R D} (he : DE C X W e m) (hs : swapsWith e none pos.line X.env = pure false := by rfl) : DS C X W (.Expr e pos) (mDrop m) := by
  obtain ⟨t, p, k⟩ := he.ex
  refine .of ⟨_, ps_expr p hs, fun F0 H0 F H σ S o E q => k _ _ _ _ _ _ o _ (Post.ofS o q fun d v F1 H1 e1 o1 r1 q1 => ?_)⟩
  exact q1 σ F1 H1 o1
def mIfS (t : List Sl → R Bool) (a b : List Sl → SO) (S : List Sl) : SO := toSL (t S) S fun c => if c = true then a S else b S
theorem ds_if {c : Expr} {as bs : List Stmt} {t : List Sl → R Bool} {a b : List Sl → SO} (hc : DT C X W c t) (ha : DSs C X W as a) (hb : DSs C X W bs b) : DS C X W (.If c as bs pos) (mIfS t a b) := by
  obtain ⟨tt, p, k⟩ := hc.ex
  refine .of ⟨_, ps_if p ha.run hb.run, fun F0 H0 F H σ S o E q => k _ _ _ _ _ _ o _ (PostT.ofS o q fun c F1 H1 e1 o1 q1 => ?_)⟩
  cases c with
  | true => exact ⟨F0, H0, F1, S, o1, q1⟩
  | false => exact ⟨F0, H0, F1, S, o1, q1⟩

/-! ### for, while -/
def loopM (t : Tg) (body : List Sl → SO) : List D → List Sl → SO
  | [], S => .nx S
  | d :: ds, S => match t.put d S with
    | .ok S1 => match body S1 with
      | .nx S2 => loopM t body ds S2
      | .ct S2 => loopM t body ds S2
      | .bk S2 => .nx S2
      | r => r
    | _ => .bad
def mFor (t : Tg) (mi : List Sl → R (List D)) (body : List Sl → SO) (S : List Sl) : SO := toSL (mi S) S fun ds => loopM t body ds S
/-- the entry, with what is known to all now -/
def joinH (A B : Hp) : Hp := fun a => match A a with
  | some o => some o
  | none => B a
theorem joinH_none {A B : Hp} {a : Addr} (h1 : A a = none) (h2 : B a = none) : joinH A B a = none := by unfold joinH; rw [h1]; exact h2
theorem joinH_same {A B H : Hp} (h1 : Same A H) (h2 : Same B H) : Same (joinH A B) H := fun a o h => by
  unfold joinH at h
  cases hA : A a with
  | some u => rw [hA] at h; cases h; exact h1 _ _ hA
  | none => rw [hA] at h; exact h2 _ _ h
theorem joinH_inv {A B : Hp} {a : Addr} (h : joinH A B a = none) : A a = none := by
  unfold joinH at h
  cases hA : A a with
  | none => rfl
  | some u => rw [hA] at h; cases h
theorem Ok.rebase {C : CL} {K : PySem.W.Frag} {F0 H0 F H : Hp} {σ : St} {S : List Sl} (o : Ok C K F0 H0 F H σ S) : Ok C K F (joinH H0 F) F H σ S where
  sub := o.sub
  f0 := Same.refl _
  h0 := joinH_same o.h0 o.sub
  old := fun _ _ _ _ => rfl
  len := o.len
  ow := by
    obtain ⟨ow, w1, w2⟩ := o.ow
    exact ⟨ow, fun a x h => ⟨joinH_none (w1 a x h).1 (w1 a x h).2.1, (w1 a x h).2⟩, w2⟩
theorem Ok.unbase {C : CL} {K : PySem.W.Frag} {F0 H0 F1 H1 F H : Hp} {σ σ1 : St} {S S1 : List Sl} (b : Ok C K F0 H0 F1 H1 σ1 S1) (o : Ok C K F1 (joinH H0 F1) F H σ S) : Ok C K F0 H0 F H σ S where
  sub := o.sub
  f0 := b.f0.trans o.f0
  h0 := fun a u h => o.h0 a u (by unfold joinH; rw [h])
  old := fun a u h n => (o.old a u (by unfold joinH; rw [h]) n).trans (b.old a u h n)
  len := o.len
  ow := by
    obtain ⟨ow, w1, w2⟩ := o.ow
    exact ⟨ow, fun a x h => ⟨joinH_inv (w1 a x h).1, (w1 a x h).2⟩, w2⟩
theorem Ext.unbase {C : CL} {K : PySem.W.Frag} {F0 H0 F1 H1 F H : Hp} {σ1 : St} {S1 : List Sl} (b : Ok C K F0 H0 F1 H1 σ1 S1) (e : Ext F1 (joinH H0 F1) F H) : Ext F0 H0 F H :=
  ⟨b.f0.trans e.ff, e.fh, fun a u h => e.hh a u (by unfold joinH; rw [h]), fun a u h n => (e.old a u (by unfold joinH; rw [h]) n).trans (b.old a u h n)⟩
theorem PostS.rebase {K : PySem.W.Frag} {F0 H0 F1 H1 : Hp} {σ1 : St} {S1 : List Sl} {r : SO} {E : Ends} (b : Ok C K F0 H0 F1 H1 σ1 S1) (q : PostS C K W F0 H0 r E) : PostS C K W F1 (joinH H0 F1) r E := by
  cases r with
  | nx S => exact fun σ F H o => q σ F H (b.unbase o)
  | rt d => exact fun v F H e r => q v F H (e.unbase b) r
  | bk S => exact fun σ F H o => q σ F H (b.unbase o)
  | ct S => exact fun σ F H o => q σ F H (b.unbase o)
  | ex e S => exact fun σ F H o => q σ F H (b.unbase o)
  | bad => exact q
  | rs d S => exact fun σ v F H o r => q σ v F H (b.unbase o) r
  | rl ds => exact fun p vs F H e h0 hf hp ra => q p vs F H (e.unbase b) (joinH_inv h0) hf hp ra
  | rd ds => exact fun p vs F H e h0 hf hp ra => q p vs F H (e.unbase b) (joinH_inv h0) hf hp ra
/-- a loop, whatever it walks -/
theorem for_core {body : List Stmt} {t : Tg} {mb : List Sl → SO} {K : PySem.W.Frag} {J : It} {B F1 Hb H1 : Hp} {σ : St} {S : List Sl} {ds : List D} {E : Ends} (o1 : Ok C K F1 Hb F1 H1 σ S) (w1 : Walk K J B F1 ds) (hB : ∀ F' H' σ' S', Ok C K F1 Hb F' H' σ' S' → Same B H')
    (q2 : PostS C K W F1 Hb (loopM t mb ds S) E) :
    ∃ Wm : Nat → Nat → St → Hp → Prop, (∃ n, Wm 0 n σ H1) ∧ ∀ i n σ H, Wm i n σ H →
      (J.stop i H ∧ E.nx σ H) ∨ (J.go i H ∧ ∃ Nx : St → Hp → Prop, (∀ σ' H', Nx σ' H' → ∃ n', n' < n ∧ Wm (i + 1) n' σ' H') ∧ ∀ x H', J.yld i H x H' → t.g K x σ H' fun σ2 H2 => cS C K W mb { nx := Nx, rt := E.rt, bk := E.nx, ct := Nx } σ2 H2) := by
  refine ⟨fun i n σ H => n = ds.length - i ∧ i ≤ ds.length ∧ ∃ F' S', Ok C K F1 Hb F' H σ S' ∧ PostS C K W F1 Hb (loopM t mb (ds.drop i) S') E, ⟨ds.length, rfl, Nat.zero_le _, F1, S, o1, by simpa using q2⟩, ?_⟩
  rintro i n σ' H' ⟨rfl, hi, F', S', o', q'⟩
  obtain ⟨w2, w3⟩ := w1 i H' (hB F' H' σ' S' o')
  by_cases hlt : i < ds.length
  · have hd1 : ds[i]? = some ds[i] := List.getElem?_eq_getElem hlt
    obtain ⟨g1, g2⟩ := w2 _ hd1
    rw [List.drop_eq_getElem_cons hlt] at q'
    refine .inr ⟨g1, fun σ H => ∃ F' S', Ok C K F1 Hb F' H σ S' ∧ PostS C K W F1 Hb (loopM t mb (ds.drop (i + 1)) S') E, fun σ H h => ⟨ds.length - (i + 1), by omega, rfl, hlt, h⟩, fun x H'' y => ?_⟩
    obtain ⟨eH, rx⟩ := g2 x H'' y
    subst eH
    unfold loopM at q'
    cases hput : t.put ds[i] S' with
    | ok S1 =>
      rw [hput] at q'
      refine Tg.run o' (rx.up o'.f0) hput fun σ2 o2 _ => ⟨_, _, F', S1, o2, ?_⟩
      simp only at q'
      cases hbd : mb S1 with
      | nx S2 => rw [hbd] at q'; exact fun σ F H o3 => ⟨F, S2, o3, q'⟩
      | ct S2 => rw [hbd] at q'; exact fun σ F H o3 => ⟨F, S2, o3, q'⟩
      | bk S2 => rw [hbd] at q'; exact q'
      | rt d => rw [hbd] at q'; exact q'
      | ex e S2 => rw [hbd] at q'; exact q'
      | bad => rw [hbd] at q'; exact q'
      | rs d S2 => rw [hbd] at q'; exact q'
      | rl d => rw [hbd] at q'; exact q'
      | rd d => rw [hbd] at q'; exact q'
    | exc x => rw [hput] at q'; exact q'.elim
    | bad => rw [hput] at q'; exact q'.elim
  · have ei : i = ds.length := by omega
    subst ei
    rw [List.drop_length] at q'
    exact .inl ⟨w3 (Nat.le_refl _), q' σ' F' H' o'⟩
theorem ds_for {tg iter : Expr} {body : List Stmt} {t : Tg} {mi : List Sl → R (List D)} {mb : List Sl → SO} (hp : PassesOwn (model X.prog X.w) X.A X.env X.xe) (hc : X.calm = true) (hi : DIS C X W tg iter mi) (hg : PG X tg (t.g X.K)) (hb : DSs C X W body mb)
    (hs : ∀ x, foldedSetIterable iter X.env x = pure x := by intro _; rfl) : DS C X W (.For tg iter body [] pos) (mFor t mi mb) := by
  obtain ⟨ti, pi, ki⟩ := hi.ex
  refine .of ⟨_, ps_for hp hc pi hg hb.run hs, fun F0 H0 F H σ S o E q => ki _ _ _ _ _ _ o _ (PostIS.ofS o q fun ds J F1 H1 e1 o1 w1 q1 => ?_)⟩
  exact for_core (body := body) o1.rebase w1 (fun F' H' σ' S' o' => o'.f0.trans o'.sub) (q1.rebase o1)
def whileM (t : List Sl → R Bool) (body : List Sl → SO) : Nat → List Sl → SO
  | 0, _ => .bad
  | n + 1, S => toSL (t S) S fun c => if c = true then (match body S with
      | .nx S2 => whileM t body n S2
      | .ct S2 => whileM t body n S2
      | .bk S2 => .nx S2
      | r => r) else .nx S
theorem ds_while {c : Expr} {body : List Stmt} {t : List Sl → R Bool} {mb : List Sl → SO} (n : Nat) (hp : PassesOwn (model X.prog X.w) X.A X.env X.xe) (hc : DT C X W c t) (hb : DSs C X W body mb) : DS C X W (.While c body [] pos) (whileM t mb n) := by
  obtain ⟨tt, p, k⟩ := hc.ex
  refine .of ⟨_, ps_while hp p hb.run, fun F0 H0 F H σ S o E q => ?_⟩
  refine ⟨fun m σ H => ∃ F S, Ok C X.K F0 H0 F H σ S ∧ PostS C X.K W F0 H0 (whileM t mb m S) E, ⟨n, F, S, o, q⟩, ?_⟩
  rintro m σ' H' ⟨F', S', o', q'⟩
  cases m with
  | zero => exact q'.elim
  | succ m =>
    unfold whileM at q'
    refine k _ _ _ _ _ _ o' _ (PostT.ofS o' q' fun c F2 H2 e2 o2 q2 => ?_)
    cases c with
    | true =>
      rw [if_pos rfl] at q2 ⊢
      refine ⟨fun σ H => ∃ F S, Ok C X.K F0 H0 F H σ S ∧ PostS C X.K W F0 H0 (whileM t mb m S) E, fun σ H h => ⟨m, Nat.lt_succ_self _, h⟩, F0, H0, F2, S', o2, ?_⟩
      cases hbd : mb S' with
      | nx S2 => rw [hbd] at q2; exact fun σ F H o3 => ⟨F, S2, o3, q2⟩
      | ct S2 => rw [hbd] at q2; exact fun σ F H o3 => ⟨F, S2, o3, q2⟩
      | bk S2 => rw [hbd] at q2; exact q2
      | rt d => rw [hbd] at q2; exact q2
      | ex e S2 => rw [hbd] at q2; exact q2
      | bad => rw [hbd] at q2; exact q2
      | rs d S2 => rw [hbd] at q2; exact q2
      | rl d => rw [hbd] at q2; exact q2
      | rd d => rw [hbd] at q2; exact q2
    | false =>
      rw [if_neg Bool.false_ne_true] at q2 ⊢
      exact q2 σ' F2 H2 o2

/-! ### what changes an object of one's own -/
def mApp (i : Nat) (m : List Sl → R D) (S : List Sl) : SO := match S[i]? with
  | some (.ol ds) => toS (m S) S fun d => if ds.length < sizeLine then .nx (S.set i (.ol (ds ++ [d]))) else .bad
  | some (.pl j ds) => toS (m S) S fun d => if ds.length < sizeLine then .nx (S.set i (.pl j (ds ++ [d]))) else .bad
  | _ => .bad
theorem ds_app {o : Expr} {i : Nat} {apos cpos : Pos} {m : List Sl → R D} (ho : PE X o (tVar i)) (he : DE C X W e m) (hbase : attributeBase o "append" X.env (eval o X.env) = eval o X.env := by rfl)
    (hfew : ((backTo cpos (starEach (e :: []) X.env)).all (fun x => !x.1) && (backToKw cpos (keywordEach [] X.env)).all (fun x => x.1.isSome) && decide ((e :: []).length + ([] : List Keyword).length + (if ([] : List Keyword).isEmpty then 0 else 1) < 30)) = true := by rfl)
    (hline : (apos.endLine == cpos.line) = true := by rfl) (hs : starEach (e :: []) X.env = (false, eval e X.env) :: starEach [] X.env := by rfl) (hplain : (backTo cpos (starEach [] X.env)).any (·.1) = false := by rfl)
    (hsw : swapsWith (.Call (.Attribute o "append" apos) (e :: []) [] cpos) none pos.line X.env = pure false := by rfl) : DS C X W (.Expr (.Call (.Attribute o "append" apos) (e :: []) [] cpos) pos) (mApp i m) := by
  obtain ⟨t, p, k⟩ := he.ex
  refine .of ⟨_, ps_expr (pe_bm PySem.F.plainAttrs_list PySem.F.slot_list_append PySem.F.type_list_append mt_append ho (pa_cons p pa_nil hs) hbase hfew hline hs hplain) hsw, fun F0 H0 F H σ S ok E q => ?_⟩
  unfold mApp at q
  split at q
  · rename_i ds hd
    obtain ⟨v, h1, a, vs, h2, h3, h4, h5⟩ := ok.at hd
    subst h2
    refine ⟨_, h1, .inl ⟨rfl, vs, SqL.of h4⟩, ?_⟩
    refine k _ _ _ _ _ _ ok _ (Post.ofS ok q fun d v F1 H1 e1 o1 r1 q1 => ?_)
    split at q1
    · rename_i hl
      have h6 : H1 a = some (.lst vs) := e1.hh _ _ h4
      have h7 : RpA X.K F1 vs ds := h5.up e1.ff
      refine ⟨a, vs, v, rfl, rfl, h6, by rw [h7.len]; exact hl, ?_⟩
      exact q1 σ F1 _ (o1.write hd h1 (.inl ⟨_, rfl⟩) rfl fun O hO _ => ⟨a, vs ++ [v], rfl, hO, upd_same, h7.app (.one r1)⟩)
    · exact q1.elim
  · rename_i j ds hd
    obtain ⟨v, h1, a, vs, h2, h3, h4, h5⟩ := ok.at hd
    subst h2
    refine ⟨_, h1, .inl ⟨rfl, vs, SqL.of h4⟩, ?_⟩
    refine k _ _ _ _ _ _ ok _ (Post.ofS ok q fun d v F1 H1 e1 o1 r1 q1 => ?_)
    split at q1
    · rename_i hl
      have h6 : H1 a = some (.lst vs) := e1.hh _ _ h4
      have h7 : RpA X.K F1 vs ds := h5.up e1.ff
      refine ⟨a, vs, v, rfl, rfl, h6, by rw [h7.len]; exact hl, ?_⟩
      exact q1 σ F1 _ (o1.write hd h1 (.inr (.inr (.inl ⟨_, _, rfl⟩))) rfl fun O hO q => ⟨q.1, a, vs ++ [v], rfl, hO, upd_same, h7.app (.one r1)⟩)
    · exact q1.elim
  · exact q.elim
/-- xs.insert(j, e) -/
def mIns (i : Nat) (mj m : List Sl → R D) (S : List Sl) : SO := match S[i]? with
  | some (.ol ds) => toS (mj S) S fun j => toS (m S) S fun d => match j with
    | .int j => if ds.length < sizeLine ∧ 0 ≤ j ∧ j < 2 ^ 63 then .nx (S.set i (.ol (ds.take j.toNat ++ [d] ++ ds.drop j.toNat))) else .bad
    | _ => .bad
  | _ => .bad
theorem ds_ins {o ej : Expr} {i : Nat} {apos cpos : Pos} {mj m : List Sl → R D} (ho : PE X o (tVar i)) (hj : DR C X W ej mj) (he : DE C X W e m) (slot : Slot "list" "insert" "list.insert") (ty : typeOf (.builtin "list.insert") = pure (.type "method_descriptor"))
    (hbase : attributeBase o "insert" X.env (eval o X.env) = eval o X.env := by rfl)
    (hfew : ((backTo cpos (starEach (ej :: e :: []) X.env)).all (fun x => !x.1) && (backToKw cpos (keywordEach [] X.env)).all (fun x => x.1.isSome) && decide ((ej :: e :: []).length + ([] : List Keyword).length + (if ([] : List Keyword).isEmpty then 0 else 1) < 30)) = true := by rfl)
    (hline : (apos.endLine == cpos.line) = true := by rfl) (hs : starEach (ej :: e :: []) X.env = (false, eval ej X.env) :: starEach (e :: []) X.env := by rfl) (hs2 : starEach (e :: []) X.env = (false, eval e X.env) :: starEach [] X.env := by rfl) (hplain : (backTo cpos (starEach (e :: []) X.env)).any (·.1) = false := by rfl)
    (hsw : swapsWith (.Call (.Attribute o "insert" apos) (ej :: e :: []) [] cpos) none pos.line X.env = pure false := by rfl) : DS C X W (.Expr (.Call (.Attribute o "insert" apos) (ej :: e :: []) [] cpos) pos) (mIns i mj m) := by
  obtain ⟨t, p, k⟩ := he.ex
  obtain ⟨tj, pj, kj⟩ := hj.ex
  refine .of ⟨_, ps_expr (pe_bm PySem.F.plainAttrs_list slot ty mt_insert ho (pa_cons pj (pa_cons p pa_nil hs2) hs) hbase hfew hline hs hplain) hsw, fun F0 H0 F H σ S ok E q => ?_⟩
  unfold mIns at q
  split at q
  · rename_i ds hd
    obtain ⟨v, h1, a, vs, h2, h3, h4, h5⟩ := ok.at hd
    subst h2
    refine ⟨_, h1, .inl ⟨rfl, vs, SqL.of h4⟩, ?_⟩
    refine kj _ _ _ _ _ _ ok _ (PostV.ofS ok q fun j w F1 H1 e1 o1 w1 q1 => ?_)
    refine k _ _ _ _ _ _ o1 _ (Post.ofS o1 q1 fun d v F2 H2 e2 o2 r2 q2 => ?_)
    cases j with
    | int j =>
      cases w1.isInt
      simp only at q2
      split at q2
      · rename_i hl
        have e12 := e1.trans e2
        have h6 : H2 a = some (.lst vs) := e12.hh _ _ h4
        have h7 : RpA X.K F2 vs ds := h5.up e12.ff
        refine ⟨a, vs, j, v, rfl, rfl, h6, by rw [h7.len]; exact hl.1, hl.2.1, hl.2.2, ?_⟩
        exact q2 σ F2 _ (o2.write hd h1 (.inl ⟨_, rfl⟩) rfl fun O hO _ => ⟨a, _, rfl, hO, upd_same, ((h7.take _).app (.one r2)).app (h7.drop _)⟩)
      · exact q2.elim
    | _ => exact q2.elim
  · exact q.elim
/-- d[k] = e -/
def putD (es : List (Int × D)) (k : Int) (d : D) : List (Int × D) := if (es.any fun e => decide (e.1 = k)) = true then es.map (fun e => if e.1 = k then (e.1, d) else e) else es ++ [(k, d)]
theorem putK_rp {K : PySem.W.Frag} {F : Hp} {k : Int} {v : V} {d : D} (r : Rp K F v d) {kvs : List (Key × V)} {es : List (Int × D)} (h : RpK K F kvs es) : RpK K F (putK kvs (Sum.inl k) v) (putD es k d) := by
  have h1 : ∀ {kvs : List (Key × V)} {es : List (Int × D)}, RpK K F kvs es → (kvs.any fun kv => decide (kv.1 = (Sum.inl k : Key))) = es.any fun e => decide (e.1 = k) := by
    intro kvs es h
    induction es generalizing kvs with
    | nil => cases h; rfl
    | cons e es ih =>
      cases h with
      | cons a b =>
        rw [List.any_cons, List.any_cons, ih b]
        congr 1
        rename_i j _ _ _
        by_cases c : j = k
        · subst c; simp
        · rw [decide_eq_false c, decide_eq_false fun z => c (Sum.inl.inj z)]
  have h2 : ∀ {kvs : List (Key × V)} {es : List (Int × D)}, RpK K F kvs es → RpK K F (kvs.map fun kv => if kv.1 = (Sum.inl k : Key) then (kv.1, v) else kv) (es.map fun e => if e.1 = k then (e.1, d) else e) := by
    intro kvs es h
    induction es generalizing kvs with
    | nil => cases h; exact .nil
    | cons e es ih =>
      cases h with
      | cons a b =>
        rename_i j _ _ _
        by_cases c : j = k
        · subst c
          simp only [List.map_cons, if_true]
          exact .cons r (ih b)
        · have c' : ¬ (Sum.inl j : Key) = Sum.inl k := fun z => c (Sum.inl.inj z)
          simp only [List.map_cons, if_neg c, if_neg c']
          exact .cons a (ih b)
  have h3 : ∀ {kvs : List (Key × V)} {es : List (Int × D)}, RpK K F kvs es → RpK K F (kvs ++ [(Sum.inl k, v)]) (es ++ [(k, d)]) := by
    intro kvs es h
    induction es generalizing kvs with
    | nil => cases h; exact .cons r .nil
    | cons e es ih =>
      cases h with
      | cons a b => exact .cons a (ih b)
  unfold putK putD
  rw [h1 h]
  split
  · exact h2 h
  · exact h3 h
def mPut (i : Nat) (mk m : List Sl → R D) (S : List Sl) : SO := match S[i]? with
  | some (.od es) => toS (m S) S fun d => toS (mk S) S fun k => match k with
    | .int k => if es.length < sizeLine then .nx (S.set i (.od (putD es k d))) else .bad
    | _ => .bad
  | some (.pd j es) => toS (m S) S fun d => toS (mk S) S fun k => match k with
    | .int k => if es.length < sizeLine then .nx (S.set i (.pd j (putD es k d))) else .bad
    | _ => .bad
  | _ => .bad
theorem ds_put {o ek : Expr} {i : Nat} {mk m : List Sl → R D} (hu : X.A.units + 1 < cLine) (ho : PE X o (tVar i)) (hk : DR C X W ek mk) (he : DE C X W e m) (hs : swapsWith e (some (.Subscript o ek pos')) pos.line X.env = pure false := by rfl) :
    DS C X W (.Assign [.Subscript o ek pos'] e pos) (mPut i mk m) := by
  obtain ⟨t, p, k⟩ := he.ex
  obtain ⟨tk, pk, kk⟩ := hk.ex
  refine .of ⟨_, ps_dput hu ho pk p hs, fun F0 H0 F H σ S ok E q => ?_⟩
  unfold mPut at q
  split at q
  · rename_i es hd
    refine k _ _ _ _ _ _ ok _ (Post.ofS ok q fun d v F1 H1 e1 o1 r1 q1 => ?_)
    obtain ⟨w, h1, a, vs, h2, h3, h4, h5⟩ := o1.at hd
    subst h2
    refine ⟨_, h1, ?_⟩
    refine kk _ _ _ _ _ _ o1 _ (PostV.ofS o1 q1 fun y w F2 H2 e2 o2 w2 q2 => ?_)
    cases y with
    | int y =>
      cases w2.isInt
      simp only at q2
      split at q2
      · rename_i hl
        have h6 : H2 a = some (.dK vs) := e2.hh _ _ h4
        have h7 : RpK X.K F2 vs es := h5.up e2.ff
        refine ⟨a, _, rfl, .inl ⟨vs, .inl y, h6, rfl, by rw [h7.len]; exact hl, rfl⟩, ?_⟩
        exact q2 σ F2 _ (o2.write hd h1 (.inr (.inl ⟨_, rfl⟩)) rfl fun O hO _ => ⟨a, _, rfl, hO, upd_same, putK_rp (r1.up e2.ff) h7⟩)
      · exact q2.elim
    | _ => exact q2.elim
  · rename_i j es hd
    refine k _ _ _ _ _ _ ok _ (Post.ofS ok q fun d v F1 H1 e1 o1 r1 q1 => ?_)
    obtain ⟨w, h1, a, vs, h2, h3, h4, h5⟩ := o1.at hd
    subst h2
    refine ⟨_, h1, ?_⟩
    refine kk _ _ _ _ _ _ o1 _ (PostV.ofS o1 q1 fun y w F2 H2 e2 o2 w2 q2 => ?_)
    cases y with
    | int y =>
      cases w2.isInt
      simp only at q2
      split at q2
      · rename_i hl
        have h6 : H2 a = some (.dK vs) := e2.hh _ _ h4
        have h7 : RpK X.K F2 vs es := h5.up e2.ff
        refine ⟨a, _, rfl, .inl ⟨vs, .inl y, h6, rfl, by rw [h7.len]; exact hl, rfl⟩, ?_⟩
        exact q2 σ F2 _ (o2.write hd h1 (.inr (.inr (.inr ⟨_, _, rfl⟩))) rfl fun O hO q => ⟨q.1, a, _, rfl, hO, upd_same, putK_rp (r1.up e2.ff) h7⟩)
      · exact q2.elim
    | _ => exact q2.elim
  · exact q.elim
theorem dnd_new : DND C X W (.Dict [] [] pos) (fun _ => .ok []) :=
  .of ⟨_, pe_dnewK, fun F0 H0 F H σ S o Q q p hp => q p [] F _ (Ext.newO o.sub hp) hp (none_of o.sub hp) upd_same .nil⟩
end

/-! ### defs -/
def spD (C : CL) (K : PySem.W.Frag) (n : Nat) (f : List D → R D) : Sp := fun vs H Q E =>
  ∃ F ds, Same F H ∧ RpA K F vs ds ∧ vs.length = n ∧ Post C K (fun cls d _ H => E cls d H) [] F H (f ds) Q
/-- a def that keeps the promise, at level k -/
structure Def (P : Program) (w : World) (K : PySem.W.Frag) (mg : Str → Option Value) (base : Heap) (C : CL) (k : Nat) (x : Str) (ps : List Str) (f : List D → R D) : Prop where
  ex : ∃ (a : Addr) (fd : FuncData), FnOk P w K mg base (L2.CX P w) k a fd ps (spD C K ps.length f) ∧ mg x = some (.ref a) ∧ PySem.W.keepIn K (.ref a) = true ∧ Binds K fd ps []
def runDef (n np : Nat) (m : List Sl → SO) (ds : List D) : R D :=
  match m (ds.map Sl.fz ++ List.replicate (n - np) Sl.un) with
  | .nx _ => .ok .non
  | .rt d => .ok d
  | .ex e _ => .exc e
  | _ => .bad
theorem start_ok {C : CL} {K : PySem.W.Frag} {F H : Hp} {vs : List V} {ds : List D} {N : List Str} (e : Same F H) (r : RpA K F vs ds) : Ok C K F H F H (L2.start N vs) (ds.map Sl.fz ++ List.replicate (N.length - vs.length) Sl.un) where
  sub := e
  f0 := Same.refl _
  h0 := Same.refl _
  old := fun _ _ _ _ => rfl
  len := by unfold L2.start; simp [r.len]
  ow := by
    refine ⟨fun _ => none, fun a x h => (by cases h), fun i s v h1 h2 => ?_⟩
    unfold L2.start at h2
    by_cases c : i < ds.length
    · rw [List.getElem?_append_left (by simpa using c), List.getElem?_map] at h1
      rw [List.getElem?_append_left (by rw [List.length_map, r.len]; exact c), List.getElem?_map] at h2
      rw [List.getElem?_eq_getElem c] at h1
      cases h1
      obtain ⟨u, hu, ru⟩ := r.getD (List.getElem?_eq_getElem c)
      rw [hu] at h2
      cases h2
      exact ⟨u, rfl, ru⟩
    · rw [List.getElem?_append_right (by simpa using c)] at h1
      obtain ⟨z1, z2⟩ := List.getElem?_eq_some_iff.mp h1
      rw [List.getElem_replicate] at z2
      subst z2
      trivial
section
variable {P : Program} {w : World} {K : PySem.W.Frag} {mg : Str → Option Value} {base : Heap} {C : CL}
/-- THE RULE for a def -/
theorem Def.mkFn {x qual : Str} {st : Stmt} {f : Addr} {fd : FuncData} {N ps : List Str} {k n np : Nat} {m : List Sl → SO} (hn : N.length = n) (hnp : ps.length = np) (F : Fun K x qual st f fd) (S : FnScope N ps (defScope st))
    (body : ∀ (cdv : Value) (A : Around) (outer : List Env) (s : Shared) (H : Hp) (E : XK), Room k (A.deeper (envOfC qual (defScope st) s.heap.objs.size f cdv)) →
      DSs C (cxOf (L2.CX P w) P w K mg base N qual (defScope st) f cdv A outer s H E) (fun cls d _ H => E cls d H) (defBody st) m) : FnOk P w K mg base (L2.CX P w) (k + 1) f fd ps (spD C K np (runDef n np m)) := by
  subst hn hnp
  refine F.okX S (fun vs H Q E h => ?_) (fun cdv A outer s H vs Q E hr h => ?_)
  · obtain ⟨_, _, _, _, hl, _⟩ := h
    exact hl
  · obtain ⟨F', ds, e, ra, hl, q⟩ := h
    refine ⟨_, (body cdv A outer s H E hr).run, F', H, F', _, start_ok e ra, ?_⟩
    unfold runDef at q
    rw [← hl] at q
    cases h : m (ds.map Sl.fz ++ List.replicate (N.length - vs.length) Sl.un) with
    | nx S => rw [h] at q; exact fun σ F1 H1 o => q .non F1 H1 o.ext .non
    | rt d => rw [h] at q; exact fun v F1 H1 o r => q v F1 H1 o r
    | ex e S => rw [h] at q; exact fun σ F1 H1 o cls d F2 H2 e2 z => q cls d F2 H2 (o.ext.trans e2) z
    | bk S => rw [h] at q; exact q.elim
    | ct S => rw [h] at q; exact q.elim
    | bad => rw [h] at q; exact q.elim
    | rs d S => rw [h] at q; exact q.elim
    | rl d => rw [h] at q; exact q.elim
    | rd d => rw [h] at q; exact q.elim
theorem Def.mk' {x qual : Str} {st : Stmt} {f : Addr} {fd : FuncData} {N ps : List Str} {k n np : Nat} {m : List Sl → SO} (hn : N.length = n) (hnp : ps.length = np) (F : Fun K x qual st f fd) (S : FnScope N ps (defScope st)) (hm : mg x = some (.ref f)) (hb : Binds K fd ps [])
    (body : ∀ (cdv : Value) (A : Around) (outer : List Env) (s : Shared) (H : Hp) (E : XK), Room k (A.deeper (envOfC qual (defScope st) s.heap.objs.size f cdv)) →
      DSs C (cxOf (L2.CX P w) P w K mg base N qual (defScope st) f cdv A outer s H E) (fun cls d _ H => E cls d H) (defBody st) m) : Def P w K mg base C (k + 1) x ps (runDef n np m) := by
  subst hnp
  exact ⟨f, fd, Def.mkFn hn rfl F S body, hm, F.kp, hb⟩
end
section
variable {C : CL} {X : Cx} {W : WX} {e : Expr} {es : List Expr} {pos p : Pos} {x : Str}
/-- f(..): arguments known to all -/
theorem de_call {k j : Nat} {ps : List Str} {g : List D → R D} {m : List Sl → R (List D)} (F : Def X.prog X.w X.K X.mg X.base C k x ps g) (hr : Room j X.A) (hk : k ≤ j) (tk : Takes X W) (hg : Gl X x) (ha : DAR C X W (e :: es) m) (hl : (e :: es).length = ps.length) (hml : ∀ S xs, m S = .ok xs → xs.length = ps.length)
    (hdb : (x == ("__debug__" : Str)) = false := by decide) (he : starEach (e :: es) X.env = (false, eval e X.env) :: starEach es X.env := by rfl) (hpl : (backTo pos (starEach es X.env)).any (·.1) = false := by rfl) :
    DE C X W (.Call (.Name x p) (e :: es) [] pos) (fun S => (m S).bind g) := by
  obtain ⟨a, fd, fn, mgx, kp, hb⟩ := F.ex
  obtain ⟨ta, pa, ka⟩ := ha.ex
  refine .of ⟨_, pe_callS (E := WE W) fn (hr.mono hk) hg mgx kp hb (fun σ => passAt tk σ) pa hdb he hpl, fun F0 H0 F H σ S o Q q => ?_⟩
  have hm2 := hml S
  cases hm : m S with
  | ok xs =>
    rw [hm] at q
    refine ka _ _ _ _ _ _ o _ ?_
    rw [hm]
    intro vs F1 H1 e1 r1
    refine ⟨F1, xs, e1.fh, r1, by rw [r1.len]; exact hm2 xs hm, ?_⟩
    have q1 : Post C X.K W σ F1 H1 (g xs) Q := Post.up q e1
    cases h : g xs with
    | ok z => rw [h] at q1; exact q1
    | exc z => rw [h] at q1; exact q1
    | bad => rw [h] at q1; exact q1
  | exc z => rw [hm] at q; refine ka _ _ _ _ _ _ o _ ?_; rw [hm]; exact q
  | bad => rw [hm] at q; exact q.elim
def scalD : D → R D
  | .non => .ok .non
  | .bl b => .ok (.bl b)
  | .int i => .ok (.int i)
  | .str s => .ok (.str s)
  | _ => .bad
theorem scalD_ok {x y : D} (h : scalD x = .ok y) : y = x ∧ ∀ (K : PySem.W.Frag) (F G : Hp) (v : V), Rp K F v x → Rp K G v x := by
  cases x <;> first | (cases h; refine ⟨rfl, fun K F G v r => ?_⟩; cases r; constructor) | cases h
theorem scalD_exc {x : D} {e : Exn} : scalD x ≠ .exc e := by intro h; cases x <;> cases h
/-- f(..): any arguments, a scalar comes back -/
theorem de_callV {k j : Nat} {ps : List Str} {g : List D → R D} {m : List Sl → R (List D)} (F : Def X.prog X.w X.K X.mg X.base C k x ps g) (hr : Room j X.A) (hk : k ≤ j) (tk : Takes X W) (hg : Gl X x) (ha : DA C X W (e :: es) m) (hml : ∀ S xs, m S = .ok xs → xs.length = ps.length)
    (hdb : (x == ("__debug__" : Str)) = false := by decide) (he : starEach (e :: es) X.env = (false, eval e X.env) :: starEach es X.env := by rfl) (hpl : (backTo pos (starEach es X.env)).any (·.1) = false := by rfl) :
    DE C X W (.Call (.Name x p) (e :: es) [] pos) (fun S => (m S).bind fun xs => (g xs).bind scalD) := by
  obtain ⟨a, fd, fn, mgx, kp, hb⟩ := F.ex
  obtain ⟨ta, pa, ka⟩ := ha.ex
  refine .of ⟨_, pe_callS (E := WE W) fn (hr.mono hk) hg mgx kp hb (fun σ => passAt tk σ) pa hdb he hpl, fun F0 H0 F H σ S o Q q => ?_⟩
  have hm2 := hml S
  cases hm : m S with
  | ok xs =>
    rw [hm] at q
    refine ka _ _ _ _ _ _ o _ ?_
    rw [hm]
    intro vs F1 H1 e1 w1
    have r1 := w1.rp e1.fh
    refine ⟨H1, xs, Same.refl _, r1, by rw [r1.len]; exact hm2 xs hm, ?_⟩
    have q1 : Post C X.K W σ F1 H1 ((g xs).bind scalD) Q := Post.up q e1
    have back : ∀ F2 H2, Ext H1 H1 F2 H2 → Ext F1 H1 F1 H2 := fun F2 H2 e2 => ⟨Same.refl _, e1.fh.trans e2.hh, e2.hh, fun _ _ _ _ => rfl⟩
    cases h : g xs with
    | ok z =>
      rw [h] at q1
      simp only [R.bind_ok] at q1
      cases h2 : scalD z with
      | ok y =>
        rw [h2] at q1
        obtain ⟨ey, sc⟩ := scalD_ok h2
        subst ey
        exact fun v F2 H2 e2 r2 => q1 v F1 H2 (back _ _ e2) (sc _ _ _ _ r2)
      | exc y => exact absurd h2 scalD_exc
      | bad => rw [h2] at q1; exact q1.elim
    | exc z => rw [h] at q1; exact fun cls d F2 H2 e2 y => q1 cls d F1 H2 (back _ _ e2) y
    | bad => rw [h] at q1; exact q1.elim
  | exc z => rw [hm] at q; refine ka _ _ _ _ _ _ o _ ?_; rw [hm]; exact q
  | bad => rw [hm] at q; exact q.elim
/-- how many arguments there are -/
theorem len_nil : ∀ S xs, aNil S = .ok xs → xs.length = 0 := fun S xs h => by cases h; rfl
theorem len_cons {ma : List Sl → R D} {mr : List Sl → R (List D)} {n : Nat} (h : ∀ S xs, mr S = .ok xs → xs.length = n) : ∀ S xs, aCons ma mr S = .ok xs → xs.length = n + 1 := fun S xs q => by
  obtain ⟨x, _, q⟩ := bind_ok q
  obtain ⟨ys, h1, q⟩ := bind_ok q
  cases q
  simp [h S ys h1]
end
end DL
/-! The data layer, part G: the module's built-in names, the law's end. -/
namespace DL
open PySem L2

/-- the built-in names that the module leaves alone -/
structure Blt (mg : Str → Option Value) : Prop where
  len : mg "len" = none
  abs : mg "abs" = none
  str : mg "str" = none
  int : mg "int" = none
  bool : mg "bool" = none
  any : mg "any" = none
  all : mg "all" = none
  tuple : mg "tuple" = none
  list : mg "list" = none
  dict : mg "dict" = none
  set : mg "set" = none
  sorted : mg "sorted" = none
  isinstance : mg "isinstance" = none
  range : mg "range" = none
  reversed : mg "reversed" = none
  max : mg "max" = none
  min : mg "min" = none
  VE : mg "ValueError" = none
theorem blt_mk {K : PySem.W.Frag} {h : Heap} {mg : Str → Option Value} (X : K.In h) (G : h.Ns mainGlobals mg)
    (z0 : PySem.W.nsIn K mainGlobals "len" = some none) (z1 : PySem.W.nsIn K mainGlobals "abs" = some none) (z2 : PySem.W.nsIn K mainGlobals "str" = some none) (z3 : PySem.W.nsIn K mainGlobals "int" = some none) (z4 : PySem.W.nsIn K mainGlobals "bool" = some none) (z5 : PySem.W.nsIn K mainGlobals "any" = some none) (z6 : PySem.W.nsIn K mainGlobals "all" = some none) (z7 : PySem.W.nsIn K mainGlobals "tuple" = some none) (z8 : PySem.W.nsIn K mainGlobals "list" = some none) (z9 : PySem.W.nsIn K mainGlobals "dict" = some none) (z10 : PySem.W.nsIn K mainGlobals "set" = some none) (z11 : PySem.W.nsIn K mainGlobals "sorted" = some none) (z12 : PySem.W.nsIn K mainGlobals "isinstance" = some none) (z13 : PySem.W.nsIn K mainGlobals "range" = some none) (z14 : PySem.W.nsIn K mainGlobals "reversed" = some none) (z15 : PySem.W.nsIn K mainGlobals "max" = some none) (z16 : PySem.W.nsIn K mainGlobals "min" = some none) (z17 : PySem.W.nsIn K mainGlobals "ValueError" = some none) : Blt mg :=
  ⟨PySem.W.mg_none_of X G z0, PySem.W.mg_none_of X G z1, PySem.W.mg_none_of X G z2, PySem.W.mg_none_of X G z3, PySem.W.mg_none_of X G z4, PySem.W.mg_none_of X G z5, PySem.W.mg_none_of X G z6, PySem.W.mg_none_of X G z7, PySem.W.mg_none_of X G z8, PySem.W.mg_none_of X G z9, PySem.W.mg_none_of X G z10, PySem.W.mg_none_of X G z11, PySem.W.mg_none_of X G z12, PySem.W.mg_none_of X G z13, PySem.W.mg_none_of X G z14, PySem.W.mg_none_of X G z15, PySem.W.mg_none_of X G z16, PySem.W.mg_none_of X G z17⟩
theorem slot_ins : Slot "list" "insert" "list.insert" := PySem.F.slot_list_insert
theorem type_ins : typeOf (.builtin "list.insert") = pure (.type "method_descriptor") := PySem.F.type_list_insert
/-- a def of the text where it stands -/
structure At (K : PySem.W.Frag) (mg : Str → Option Value) (x : Str) (st : Stmt) (ps : List Str) : Prop where
  ex : ∃ (f : Addr) (fd : FuncData), Fun K x x st f fd ∧ mg x = some (.ref f) ∧ Binds K fd ps []
theorem at_mk {K : PySem.W.Frag} {h : Heap} {mg : Str → Option Value} {x : Str} {st : Stmt} {ps : List Str} {f : Addr} {oc : Value} {od an : Option Addr} {osl : Array (Option Value)} {kV doc pm cdv ct : Value} (X : K.In h) (G : h.Ns mainGlobals mg)
    (a : PySem.W.nsIn K mainGlobals x = some (some (.ref f))) (l : K.lookup f = some ⟨oc, od, .func (PySem.W.fnOf x x (defArgs st) (defBody st) (defScope st) .none kV doc pm an cdv ct), osl⟩) (c : PySem.W.codeIn K cdv x = true) (k : PySem.W.keepIn K (.ref f) = true)
    (b : ∀ (kV doc pm : Value) (an : Option Addr) (cdv ct : Value) (us : List Value), us.length = ps.length → bindArgs (PySem.W.fnOf x x (defArgs st) (defBody st) (defScope st) .none kV doc pm an cdv ct) ⟨us, []⟩ = pure (ps.zip us)) : At K mg x st ps :=
  have F := fun_mk (st := st) l c k
  ⟨f, _, F, PySem.W.mg_of X G a, F.binds b⟩
/-- the law itself: its function object is asked ahead of the base -/
structure AtL (K : PySem.W.Frag) (st : Stmt) (x0 : Str) (fa : Addr) : Prop where
  ex : ∃ fd : FuncData, Fun K "law" "law" st fa fd ∧ ∀ (s : Shared) (v : Value), BindsTo s fd ⟨[v], []⟩ [(x0, v)]
theorem atL_mk {K : PySem.W.Frag} {h : Heap} {mg : Str → Option Value} {st : Stmt} {x0 : Str} {f fa : Addr} {oc : Value} {od an : Option Addr} {osl : Array (Option Value)} {kV doc pm cdv ct : Value} (X : K.In h) (G : h.Ns mainGlobals mg) (hfa : mg "law" = some (.ref fa))
    (a : PySem.W.nsIn K mainGlobals "law" = some (some (.ref f))) (l : K.lookup f = some ⟨oc, od, .func (PySem.W.fnOf "law" "law" (defArgs st) (defBody st) (defScope st) .none kV doc pm an cdv ct), osl⟩) (c : PySem.W.codeIn K cdv "law" = true) (k : PySem.W.keepIn K (.ref f) = true)
    (b : ∀ (kV doc pm : Value) (an : Option Addr) (cdv ct : Value) (v : Value), bindArgs (PySem.W.fnOf "law" "law" (defArgs st) (defBody st) (defScope st) .none kV doc pm an cdv ct) ⟨[v], []⟩ = pure [(x0, v)]) : AtL K st x0 fa := by
  have e := hfa.symm.trans (PySem.W.mg_of X G a)
  cases e
  exact ⟨_, fun_mk (st := st) l c k, fun s v => .of_eq (b _ _ _ _ _ _ v)⟩
/-- what law(script) promises -/
def spLaw (K : PySem.W.Frag) : Sp := fun vs H Q _ => ∃ (a : Addr) (ns : List Int), vs = [.ref a] ∧ SqL K H a (ns.map V.int) ∧ ns.length ≤ 63 ∧ ∀ H', Q (.bl true) H'
theorem law_end {P : Program} {w : World} {K : PySem.W.Frag} {mg : Str → Option Value} {base : Heap} {C : CL} {k : Nat} {f : Addr} {fd : FuncData} {x : Str} {g : List D → R D} (F : FnOk P w K mg base (L2.CX P w) k f fd [x] (spD C K 1 g))
    (h : ∀ ns : List Int, ns.length ≤ 63 → g [.scr ns] = .ok (.bl true)) : FnOk P w K mg base (L2.CX P w) k f fd [x] (spLaw K) := by
  refine F.imp fun vs H Q E ⟨a, ns, e, hs, hl, q⟩ => ?_
  subst e
  refine ⟨H, [.scr ns], Same.refl _, .cons (.scr hs) .nil, rfl, ?_⟩
  rw [h ns hl]
  intro v F' H' e r
  cases r
  exact q H'
theorem law_walk {l : PySem.W.OpenLaw} {k : Nat} {q : Program} {loose : List Str} {XP : (Str → Option Value) → Heap → Prop} {YP : World → Heap → Prop} {d : DefRec} {K : Params → PySem.W.Frag} {x : Str} (hn : l.most = some 63) (hdf : d.params.defaults = []) (hr : Room k callerA)
    (hY : ∀ (w : World) (h : Heap), YP w h → (K w.params).In h)
    (F : ∀ (w : World) (mg : Str → Option Value) (fa : Addr) (h : Heap), (K w.params).In h → h.Ns mainGlobals mg → mg d.name = some (.ref fa) →
      ∃ fd : FuncData, (∀ (s : Shared) (u : Value), BindsTo s fd ⟨[u], []⟩ [(x, u)]) ∧ ∀ base : Heap, (K w.params).In base → base.Ns mainGlobals mg → FnOk l.prog w (K w.params) mg base (L2.CX l.prog w) k fa fd [x] (spLaw (K w.params))) :
    PySem.W.WalkO q loose XP YP l.row.toRowW d [] (fun f vs => PySem.call f vs) :=
  L2.walk_of (n := 63) (k := k) (x := x) (CX := fun w => L2.CX l.prog w) (sp := fun w => spLaw (K w.params)) hn (by decide) hdf hr hY F (fun _ _ a ns hl _ hS => ⟨a, ns, rfl, hS, hl, fun _ => rfl⟩) fun _ _ _ _ _ z => by
    obtain ⟨_, _, _, _, _, _, _, _, _, _, _, _, z⟩ := z
    exact z
end DL
/-! The data layer, part H: min(xs, key=abs). -/
namespace DL
open PySem L2 PyProof.Rows

section
variable {prog : Program} {w : World} {A : Around} {E : Value → Shared → Prop} {s : Shared}
theorem key_run {its : List Value} {ns : List Int} (hi : IntsAre its ns) (s0 : Shared) (St : Nat → Shared → Prop) (hSt : ∀ i (s : Shared) tk, St i s → St i { s with toks := tk }) (S I : Addr) (h0 : ∀ b o, s0.heap.get? b = some o → b ≠ S ∧ b ≠ I) :
    KeyRun prog w A (.builtin "abs") .Lt S [I] (fun a b => b = a) its.length (fun i v => its.toArray[i]? = some v) St (fun s' => ∃ h' tk, s' = { s0 with heap := h', toks := tk } ∧ ∀ b o, s0.heap.get? b = some o → h'.get? b = some o)
      (fun i k _ => ∃ t, k = .int ((ns.getD i 0).natAbs : Int) t) (fun i j => decide (((ns.getD i 0).natAbs : Int) < ((ns.getD j 0).natAbs : Int))) where
  keep := fun s s' ⟨h', tk, e, k⟩ m => by
    subst e
    refine ⟨s'.heap, s'.toks, ?_, fun b o hb => m.heap b o (fun hm => ?_) (k b o hb)⟩
    · obtain ⟨mh, mg, md, mo, mt⟩ := m
      cases s'
      simp only at mg md mo
      subst mg; subst md; subst mo
      rfl
    · obtain ⟨n1, n2⟩ := h0 b o hb
      rcases List.mem_cons.mp hm with e | hm
      · exact n1 e
      · exact n2 (List.mem_singleton.mp hm)
  keepV := fun _ _ _ _ h _ => h
  turn := fun i v s o Q E hi' hP ⟨h', tk, e, k⟩ st hS q => by
    obtain ⟨n, hn⟩ : ∃ n, ns[i]? = some n := ⟨_, List.getElem?_eq_getElem (by have := hi.length; omega)⟩
    obtain ⟨t, ht⟩ := hi.get i n hn
    have hv : its[i]? = some v := by simpa using hP
    rw [ht] at hv
    cases hv
    have e2 : ns.getD i 0 = n := by simp [hn]
    refine call_abs_int fun u tk2 => ?_
    refine q _ _ ⟨h', tk2, by rw [e], k⟩ (hSt _ _ _ st) hS ⟨u, ?_⟩ fun _ _ h => h
    rw [e2]
    congr 1
    split <;> omega
  cmp := fun i j ki kj s Q E _ ⟨t, hk⟩ ⟨u, hk2⟩ q => by
    subst hk; subst hk2
    exact richCompare_gives (op := .Lt) (typeIs_int s _ t) (typeIs_int s _ u) F.slot_int_lt F.entry_int_lt (F.args_int_lt_2 _ _) (gives_int_lt _ _ t u) (fun x => nomatch x) q
theorem min_abs_raw {its : List Value} {ns : List Int} {l : Addr} {Q : Value → Shared → Prop} (hh : A.handled = none) (hl : s.heap.IsList l its.toArray) (hi : IntsAre its ns) (hne : 0 < ns.length)
    (h : ∀ h' tk M t', (∀ b o, s.heap.get? b = some o → h'.get? b = some o) → M ∈ ns → (∀ a, a ∈ ns → M.natAbs ≤ a.natAbs) → Q (.int M t') { s with heap := h', toks := tk }) : wpAny (model prog w) A (call (.builtin "min") [.ref l] [(Str.ofString "key", .builtin "abs")]) Q E s := by
  have hlen := hi.length
  have hn0 : 0 < its.length := by omega
  have hll : l < s.heap.objs.size := by obtain ⟨_, e, _⟩ := hl; exact Heap.lt_size e
  refine kmb_tree F.kind_min F.plain_min F.entry_min (kmb_min_key _ _) (wpAny_bind (wpAny_of_eq (show Builtin.Builtins.bindParams "min" ["key", "default"] 0 ⟨[], [(Str.ofString "key", Value.builtin "abs")]⟩ = pure [some (Value.builtin "abs"), none] from rfl) (wpAny_bind (wpAny_pure ?_))))
  refine wpAny_bind (wpAny_pyIter_list hl (wpAny_bind (wpAny_newList ?_ (Nat.zero_le _))))
  rw [show (toString "min" ++ toString ".loop" : String) = "min.loop" by decide]
  refine wpAny_pure ⟨plainId_quiet F.plain_min_loop _, ?_⟩
  have hsz : (s.heap.push { cls := .type "list_iterator", data := .fields #[.ref l, .int 0 0] }).objs.size = s.heap.objs.size + 1 := size_push' ..
  have hlI : l ≠ s.heap.objs.size := Nat.ne_of_lt hll
  have W := (Walks.list (prog := prog) (w := w) (A := A.in1) hh s.heap.objs.size l hlI its.toArray).toS
  rw [List.size_toArray] at W
  refine codeAny_min_loop_firstKB W (s.heap.push { cls := .type "list_iterator", data := .fields #[.ref l, .int 0 0] }).objs.size ?_
    (key_run hi s _ (fun _ _ _ h => h) _ _ fun b o e => ⟨?_, ?_⟩) _ hn0 ⟨_, s.toks, rfl, fun b o e => Heap.get?_push_of_some _ (Heap.get?_push_of_some _ e)⟩
    ⟨⟨_, Heap.get?_push_of_some _ (Heap.get?_push_size _ rfl), rfl, rfl⟩, ?_⟩ (Heap.get?_push_size _ rfl) fun v s' hv hJ => ?_
  · rw [hsz]
    intro hm
    rcases List.mem_cons.mp hm with e | hm
    · exact absurd e (Nat.ne_of_gt (Nat.lt_succ_self _))
    · exact absurd (List.mem_singleton.mp hm) (Nat.ne_of_gt (Nat.lt_succ_of_lt hll))
  · rw [hsz]; exact Nat.ne_of_lt (Nat.lt_succ_of_lt (Heap.lt_size e))
  · exact Nat.ne_of_lt (Heap.lt_size e)
  · exact (hl.push _).push _
  · obtain ⟨h', tk, rfl, k⟩ := hJ
    obtain ⟨h1, h2⟩ := argBest_lt (fun i => ((ns.getD i 0).natAbs : Int)) (its.length - 1)
    have hv : its[argBest (fun i j => decide (((ns.getD i 0).natAbs : Int) < ((ns.getD j 0).natAbs : Int))) (its.length - 1)]? = some v := by simpa using hv
    generalize argBest (fun i j => decide (((ns.getD i 0).natAbs : Int) < ((ns.getD j 0).natAbs : Int))) (its.length - 1) = i at *
    obtain ⟨n, hn⟩ : ∃ n, ns[i]? = some n := ⟨_, List.getElem?_eq_getElem (by omega)⟩
    obtain ⟨t, ht⟩ := hi.get i n hn
    rw [ht] at hv
    cases hv
    have e2 : ns.getD i 0 = n := by simp [hn]
    refine h h' tk n t k (List.mem_of_getElem? hn) fun a ha => ?_
    obtain ⟨j, hj, ej⟩ := List.getElem_of_mem ha
    have := h2 j (by omega)
    have e3 : ns.getD j 0 = a := by rw [← ej]; simp [hj]
    simp only [e2, e3] at this
    omega
end
def tMinAbs (K : PySem.W.Frag) (ta : TA) : TE := fun σ H Q => ta σ H fun vs H1 => ∃ (a : Addr) (ns : List Int), vs = [V.ref a] ∧ SqL K H1 a (ns.map V.int) ∧ 0 < ns.length ∧ ∀ m, m ∈ ns → (∀ y, y ∈ ns → m.natAbs ≤ y.natAbs) → Q (.int m) H1
theorem pe_min_abs {X : Cx} {e : Expr} {ta : TA} {p p2 kpos pos : Pos} (hc : X.calm = true) (hg : Gl X "min") (hg2 : Gl X "abs") (hm : X.mg "min" = none) (hm2 : X.mg "abs" = none) (ha : PA X [e] ta)
    (hse : backTo pos (starEach [e] X.env) = [(false, eval e X.env)] := by rfl) (hpl : (backTo pos (starEach [e] X.env)).any (·.1) = false := by rfl) : PE X (.Call (.Name "min" p) [e] [⟨some "key", .Name "abs" p2, kpos⟩] pos) (tMinAbs X.K ta) := by
  refine ⟨fun pins s σ H Q I h => ?_⟩
  refine wpAny_Call_Name_kw (ld_blt I hg hm boot_min ?_)
  refine callWith_kw (thn (ha.run pos pins s σ H _ I h) fun us s1 ⟨vs, H1, I1, r1, q1⟩ => ?_) hse hpl rfl rfl
  show wpAny _ _ (evalAll [do let v ← eval (.Name "abs" p2) X.env; standAt pos; pure v]) _ _ s1
  refine wpAny_evalAll_cons (wpAny_bind (ld_blt I1 hg2 hm2 boot_abs (wpAny_bind (wpAny_standAt (wpAny_pure (wpAny_evalAll_nil ?_))))))
  obtain ⟨a, ns, ev, hs, hne, q⟩ := q1
  subst ev
  obtain ⟨its, rv, hl, _⟩ := I1.list hs
  rw [Vals.ref1 r1]
  exact min_abs_raw (I1.ok.hd hc) hl.isList rv.ints hne fun h' tk m t' hk h1 h2 => ⟨.int _, H1, I1.kept hk, ⟨_, rfl⟩, q m h1 h2⟩
end DL
/-! The data layer, part I: a dict's keys walked in a comprehension. -/
namespace DL
open PySem L2

/-! ### a dict locked and unlocked -/
def LockTo (F G : Hp) : Prop := ∀ a o, F a = some o → G a = some o ∨ ∃ od kvs, o = .dK kvs ∧ G a = some (.frz od (.dK kvs))
section
variable {K : PySem.W.Frag} {F G : Hp}
theorem LockTo.rdD (e : LockTo F G) {a : Addr} {kvs : List (Key × V)} (h : Rd F a (.dK kvs)) : Rd G a (.dK kvs) := by
  rcases h with h | ⟨o, h⟩
  · rcases e _ _ h with h | ⟨od, k2, e1, h⟩
    · exact .inl h
    · cases e1; exact .inr ⟨od, h⟩
  · rcases e _ _ h with h | ⟨od, k2, e1, h⟩
    · exact .inr ⟨o, h⟩
    · cases e1
theorem LockTo.rdL (e : LockTo F G) {a : Addr} {xs : List V} (h : Rd F a (.lst xs)) : Rd G a (.lst xs) := by
  rcases h with h | ⟨o, h⟩
  · rcases e _ _ h with h | ⟨od, k2, e1, h⟩
    · exact .inl h
    · cases e1
  · rcases e _ _ h with h | ⟨od, k2, e1, h⟩
    · exact .inr ⟨o, h⟩
    · cases e1
theorem LockTo.lst (e : LockTo F G) {a : Addr} {xs : List V} (h : F a = some (.lst xs)) : G a = some (.lst xs) := by
  rcases e _ _ h with h | ⟨od, k2, e1, h⟩
  · exact h
  · cases e1
theorem LockTo.tup (e : LockTo F G) {a : Addr} {xs : List V} (h : F a = some (.tup xs)) : G a = some (.tup xs) := by
  rcases e _ _ h with h | ⟨od, k2, e1, h⟩
  · exact h
  · cases e1
theorem LockTo.sq (e : LockTo F G) {a : Addr} {xs : List V} (h : SqL K F a xs) : SqL K G a xs := by
  rcases h with h | h
  · exact .inl (e.rdL h)
  · exact .inr h
mutual
theorem Rp.lock (e : LockTo F G) : ∀ (d : D) (v : V), Rp K F v d → Rp K G v d
  | .non, _, h => by cases h; exact .non
  | .bl b, _, h => by cases h; exact .bl b
  | .int i, _, h => by cases h; exact .int i
  | .str i, _, h => by cases h; exact .str i
  | .lst ds, _, h => by
    cases h with
    | lst h1 h2 => exact .lst (e.lst h1) (RpA.lock e ds _ h2)
  | .tup ds, _, h => by
    cases h with
    | tup h1 h2 => exact .tup (e.tup h1) (RpA.lock e ds _ h2)
  | .dct es, _, h => by
    cases h with
    | dct h1 h2 => exact .dct (e.rdD h1) (RpK.lock e es _ h2)
  | .scr ns, _, h => by
    cases h with
    | scr h1 => exact .scr (e.sq h1)
theorem RpA.lock (e : LockTo F G) : ∀ (ds : List D) (vs : List V), RpA K F vs ds → RpA K G vs ds
  | [], _, h => by cases h; exact .nil
  | d :: ds, _, h => by
    cases h with
    | cons h1 h2 => exact .cons (Rp.lock e d _ h1) (RpA.lock e ds _ h2)
theorem RpK.lock (e : LockTo F G) : ∀ (ds : List (Int × D)) (vs : List (Key × V)), RpK K F vs ds → RpK K G vs ds
  | [], _, h => by cases h; exact .nil
  | (k, d) :: ds, _, h => by
    cases h with
    | cons h1 h2 => exact .cons (Rp.lock e d _ h1) (RpK.lock e ds _ h2)
end
mutual
def noD : D → Bool
  | .lst ds => noDA ds
  | .tup ds => noDA ds
  | .dct _ => false
  | _ => true
def noDA : List D → Bool
  | [] => true
  | d :: ds => noD d && noDA ds
end
def FreeTo (F G : Hp) : Prop := ∀ a o, F a = some o → G a = some o ∨ ∃ od kvs, o = .frz od (.dK kvs)
mutual
theorem Rp.free (e : FreeTo F G) : ∀ (d : D) (v : V), noD d = true → Rp K F v d → Rp K G v d
  | .non, _, _, h => by cases h; exact .non
  | .bl b, _, _, h => by cases h; exact .bl b
  | .int i, _, _, h => by cases h; exact .int i
  | .str i, _, _, h => by cases h; exact .str i
  | .lst ds, _, n, h => by
    cases h with
    | lst h1 h2 =>
      rcases e _ _ h1 with h | ⟨od, k2, e1⟩
      · exact .lst h (RpA.free e ds _ n h2)
      · cases e1
  | .tup ds, _, n, h => by
    cases h with
    | tup h1 h2 =>
      rcases e _ _ h1 with h | ⟨od, k2, e1⟩
      · exact .tup h (RpA.free e ds _ n h2)
      · cases e1
  | .dct es, _, n, h => by cases n
  | .scr ns, _, _, h => by
    cases h with
    | scr h1 =>
      refine .scr ?_
      rcases h1 with (h | ⟨o, h⟩) | h
      · rcases e _ _ h with h | ⟨od, k2, e1⟩
        · exact .inl (.inl h)
        · cases e1
      · rcases e _ _ h with h | ⟨od, k2, e1⟩
        · exact .inl (.inr ⟨o, h⟩)
        · cases e1
      · exact .inr h
theorem RpA.free (e : FreeTo F G) : ∀ (ds : List D) (vs : List V), noDA ds = true → RpA K F vs ds → RpA K G vs ds
  | [], _, _, h => by cases h; exact .nil
  | d :: ds, _, n, h => by
    cases h with
    | cons h1 h2 =>
      have n' : (noD d && noDA ds) = true := n
      rw [Bool.and_eq_true] at n'
      exact .cons (Rp.free e d _ n'.1 h1) (RpA.free e ds _ n'.2 h2)
end
end
def keysD (es : List (Int × D)) : List D := es.map fun e => .int e.1
/-- a comprehension over the keys of the dict in slot i -/
def mLcK (i : Nat) (t : Tg) (vs : List Nat) (c : List Sl → R Bool) (m : List Sl → R D) (S : List Sl) : R (List D) :=
  let go (es : List (Int × D)) : R (List D) := if es.length ≤ sizeLine then (match lcM t c m (wipeS (S.set i (.fz (.dct es))) vs) (keysD es) with | .ok ys => if noDA ys = true then .ok ys else .bad | _ => .bad) else .bad
  match S[i]? with
  | some (.fz (.dct es)) => go es
  | some (.od es) => go es
  | _ => .bad
theorem walk_keysD {K : PySem.W.Frag} {B F : Hp} {d : Addr} {o : Obj} {kvs : List (Key × V)} {es : List (Int × D)} (h : B d = some (.frz o (.dK kvs))) (r : RpK K F kvs es) : Walk K (Itk d o kvs) B F (keysD es) := by
  intro i H' e
  have hd : H' d = some (.frz o (.dK kvs)) := e _ _ h
  have kl : ∀ {kvs : List (Key × V)} {es : List (Int × D)}, RpK K F kvs es → ∀ (i : Nat) (d : D), (keysD es)[i]? = some d → ∃ (k : Int) (v : V), kvs[i]? = some ((Sum.inl k : Key), v) ∧ d = D.int k := by
    intro kvs es r
    induction es generalizing kvs with
    | nil => intro i d h; simp [keysD] at h
    | cons e es ih =>
      obtain ⟨k, d0⟩ := e
      cases r with
      | cons h1 h2 =>
        intro i d h
        cases i with
        | zero => simp [keysD] at h; exact ⟨k, _, rfl, h.symm⟩
        | succ i => exact ih h2 i d (by simpa [keysD] using h)
  have hlen : kvs.length = es.length := r.len
  refine ⟨fun x hx => ?_, fun hl => ⟨hd, by simp [keysD] at hl; omega⟩⟩
  obtain ⟨k, v, hk, rfl⟩ := kl r i x hx
  refine ⟨⟨hd, (List.getElem?_eq_some_iff.mp hk).1⟩, ?_⟩
  rintro y H'' ⟨rfl, k2, v2, h2, rfl⟩
  rw [hk] at h2
  cases h2
  exact ⟨rfl, .int k⟩
theorem LockTo.upR {K : PySem.W.Frag} {F G : Hp} (e : LockTo F G) : Up K F G := ⟨fun _ _ h => Rp.lock e _ _ h, fun _ _ h => RpA.lock e _ _ h, fun _ _ h => RpK.lock e _ _ h⟩
/-- a dict is locked -/
theorem Ok.lockD {C : CL} {K : PySem.W.Frag} {F0 H0 F H : Hp} {σ : St} {S : List Sl} {i : Nat} {s : Sl} {d : Addr} {od : Obj} {kvs : List (Key × V)} {es : List (Int × D)} (o : Ok C K F0 H0 F H σ S) (hs : S[i]? = some s) (hσ : σ[i]? = some (some (.ref d)))
    (hd : H d = some (.dK kvs)) (hF : F d = some (.dK kvs) ∨ (F d = none ∧ ∃ es, s = .od es)) (r : RpK K F kvs es) :
    Ok C K (upd F0 d (.frz od (.dK kvs))) (upd H0 d (.frz od (.dK kvs))) (upd F d (.frz od (.dK kvs))) (upd H d (.frz od (.dK kvs))) σ (S.set i (.fz (.dct es))) := by
  have lk : LockTo F (upd F d (.frz od (.dK kvs))) := fun a u h => by
    by_cases e : a = d
    · subst e
      rcases hF with hF | hF
      · rw [hF] at h; cases h; exact .inr ⟨od, kvs, rfl, upd_same⟩
      · rw [hF.1] at h; cases h
    · exact .inl (by rw [upd_ne e]; exact h)
  obtain ⟨ow, w1, w2⟩ := o.ow
  have own : ∀ x, ow d = some x → x.1 = i := fun x hx => by
    rcases hF with hF | ⟨hF, es2, rfl⟩
    · have := (w1 d x hx).2.1; rw [hF] at this; cases this
    · obtain ⟨p, vs, z1, z2, _⟩ := w2 i _ _ hs hσ
      cases z1
      rw [z2] at hx; cases hx; rfl
  refine ⟨fun a u h => ?_, fun a u h => ?_, fun a u h => ?_, fun a u h n => ?_, by simp [o.len], ?_⟩
  · by_cases e : a = d
    · subst e; rw [upd_same] at h ⊢; exact h
    · rw [upd_ne e] at h ⊢; exact o.sub _ _ h
  · by_cases e : a = d
    · subst e; rw [upd_same] at h ⊢; exact h
    · rw [upd_ne e] at h ⊢; exact o.f0 _ _ h
  · by_cases e : a = d
    · subst e; rw [upd_same] at h ⊢; exact h
    · rw [upd_ne e] at h ⊢; exact o.h0 _ _ h
  · by_cases e : a = d
    · subst e; rw [upd_same, upd_same]
    · rw [upd_ne e] at h; rw [upd_ne e, upd_ne e]; exact o.old _ _ h n
  · refine ⟨fun a => if a = d then none else ow a, fun a x ha => ?_, fun j t v h1 h2 => ?_⟩
    · have ha : (if a = d then none else ow a) = some x := ha
      by_cases e : a = d
      · rw [if_pos e] at ha; cases ha
      · rw [if_neg e] at ha
        rw [upd_ne e, upd_ne e, upd_ne e]
        exact w1 a x ha
    · by_cases e : i = j
      · subst e
        rw [List.getElem?_set_self (List.getElem?_eq_some_iff.mp hs).1] at h1
        cases h1
        rw [hσ] at h2
        cases h2
        exact ⟨_, rfl, .dct (.inr ⟨od, upd_same⟩) (RpK.lock lk _ _ r)⟩
      · rw [List.getElem?_set_ne e] at h1
        have nd : ∀ a n, ow a = some (j, n) → a ≠ d := fun a n h z => by rw [z] at h; exact e (own _ h).symm
        refine (w2 j t v h1 h2).frame lk.upR (fun a n h => by rw [upd_ne (nd a n h)]) (keep_upd hd rfl) fun a n h => ?_
        show (if a = d then none else ow a) = some (j, n)
        rw [if_neg (nd a n h)]; exact h
theorem lock_or {C : CL} {X : Cx} {W : WX} {i : Nat} {t : Tg} {vs : List Nat} {c : List Sl → R Bool} {m : List Sl → R D} {F0 H0 F H : Hp} {σ : St} {S : List Sl} {Q : VK} (hv : ∀ j ∈ t.slots, j ∈ vs) (o : Ok C X.K F0 H0 F H σ S) (q : PostN C X.K W σ F H (mLcK i t vs c m S) Q) :
    tLockE (tLc (iKeys (tVar i)) (t.g X.K) (cT C X.K W0 c) (cE C X.K W0 m) vs) σ H Q ∨ tLc (iKeys (tVar i)) (t.g X.K) (cT C X.K W0 c) (cE C X.K W0 m) vs σ H Q := by
  have lockd : ∀ (s : Sl) (d : Addr) (kvs : List (Key × V)) (es : List (Int × D)), S[i]? = some s → σ[i]? = some (some (.ref d)) → H d = some (.dK kvs) → (F d = some (.dK kvs) ∨ (F d = none ∧ ∃ es, s = .od es)) → RpK X.K F kvs es →
      ∀ ys, es.length ≤ sizeLine → lcM t c m (wipeS (S.set i (.fz (.dct es))) vs) (keysD es) = .ok ys → noDA ys = true → PostN C X.K W σ F H (.ok ys) Q → tLockE (tLc (iKeys (tVar i)) (t.g X.K) (cT C X.K W0 c) (cE C X.K W0 m) vs) σ H Q := by
    intro s d kvs es hs hσ hd hF r ys hl hm hn q
    refine ⟨d, .dK kvs, hd, trivial, fun od => ?_⟩
    have o1 := o.lockD (od := od) hs hσ hd hF r
    have lk : LockTo F (upd F d (.frz od (.dK kvs))) := fun a u h => by
      by_cases e : a = d
      · subst e
        rcases hF with hF | hF
        · rw [hF] at h; cases h; exact .inr ⟨od, kvs, rfl, upd_same⟩
        · rw [hF.1] at h; cases h
      · exact .inl (by rw [upd_ne e]; exact h)
    have hfz : (upd H d (.frz od (.dK kvs))) d = some (.frz od (.dK kvs)) := upd_same
    refine ⟨_, hσ, d, od, rfl, .inl ⟨kvs, hfz, ?_⟩⟩
    intro Dl hDl
    refine lc_run o1 (walk_keysD hfz (RpK.lock lk _ _ r)) (by simpa [keysD] using hl) hDl hv hm fun F' H' ws e fd hw ra => ?_
    have nD : Dl ≠ d := fun z => by rw [z, hfz] at hDl; cases hDl
    have e1 : H' d = some (.frz od (.dK kvs)) := e.hh _ _ hfz
    refine ⟨e1, ?_⟩
    have hF' : F' d = some (.frz od (.dK kvs)) := (e.old d _ hfz rfl).trans upd_same
    refine q Dl ws (fun a => if a = d then F d else F' a) _ ⟨fun a u h => ?_, fun a u h => ?_, fun a u h => ?_, fun a u h nt => ?_⟩ (by rw [upd_ne nD] at hDl; exact hDl) (by rw [if_neg nD]; exact fd) (by rw [upd_ne nD]; exact hw) (RpA.free (fun a u h => ?_) _ _ hn ra)
    · by_cases z : a = d
      · subst z; rw [if_pos rfl]; exact h
      · rw [if_neg z]; exact e.ff _ _ (by rw [upd_ne z]; exact h)
    · by_cases z : a = d
      · subst z
        rw [if_pos rfl] at h
        rw [upd_same]
        have := o.sub _ _ h
        rw [hd] at this; exact this
      · rw [if_neg z] at h
        rw [upd_ne z]; exact e.fh _ _ h
    · by_cases z : a = d
      · subst z; rw [upd_same, ← h, hd]
      · rw [upd_ne z]; exact e.hh _ _ (by rw [upd_ne z]; exact h)
    · by_cases z : a = d
      · subst z; rw [if_pos rfl]
      · rw [if_neg z]
        have := e.old a u (by rw [upd_ne z]; exact h) nt
        rw [upd_ne z] at this
        exact this
    · by_cases z : a = d
      · subst z; rw [hF'] at h; cases h; exact .inr ⟨od, kvs, rfl⟩
      · exact .inl (by rw [if_neg z]; exact h)
  have plain : ∀ (d : Addr) (kvs : List (Key × V)) (es : List (Int × D)) (od : Obj), S[i]? = some (.fz (.dct es)) → σ[i]? = some (some (.ref d)) → H d = some (.frz od (.dK kvs)) → RpK X.K F kvs es →
      ∀ ys, es.length ≤ sizeLine → lcM t c m (wipeS (S.set i (.fz (.dct es))) vs) (keysD es) = .ok ys → PostN C X.K W σ F H (.ok ys) Q → tLc (iKeys (tVar i)) (t.g X.K) (cT C X.K W0 c) (cE C X.K W0 m) vs σ H Q := by
    intro d kvs es od hs hσ hd r ys hl hm q
    refine ⟨_, hσ, d, od, rfl, .inl ⟨kvs, hd, ?_⟩⟩
    intro Dl hDl
    have es' : S.set i (.fz (.dct es)) = S := by
      refine List.ext_getElem (by simp) fun j h1 h2 => ?_
      by_cases e : i = j
      · subst e
        rw [List.getElem_set_self]
        have := (List.getElem?_eq_some_iff.mp hs).2
        exact this.symm
      · rw [List.getElem_set_ne e]
    rw [es'] at hm
    exact lc_run o (walk_keysD hd r) (by simpa [keysD] using hl) hDl hv hm fun F' H' ws e fd hw ra => q Dl ws F' H' e hDl fd hw ra
  unfold mLcK at q
  have hlen := o.len
  cases hs : S[i]? with
  | none => rw [hs] at q; exact q.elim
  | some s =>
    obtain ⟨v, hσ, sl⟩ := o.at hs
    rw [hs] at q
    cases s with
    | od es =>
      obtain ⟨d, kvs, rfl, h1, h2, h3⟩ := sl
      simp only at q
      split at q
      · rename_i hl
        split at q
        · rename_i ys hm
          split at q
          · rename_i hn
            exact .inl (lockd _ d kvs es hs hσ h2 (.inr ⟨h1, _, rfl⟩) h3 ys hl hm hn q)
          · exact q.elim
        · exact q.elim
      · exact q.elim
    | fz x =>
      cases x with
      | dct es =>
        obtain ⟨u, rfl, h1⟩ := sl
        simp only at q
        split at q
        · rename_i hl
          split at q
          · rename_i ys hm
            split at q
            · rename_i hn
              cases h1 with
              | dct h1 h2 =>
                rcases h1 with h1 | ⟨od, h1⟩
                · exact .inl (lockd _ _ _ es hs hσ (o.sub _ _ h1) (.inl h1) h2 ys hl hm hn q)
                · exact .inr (plain _ _ es od hs hσ (o.sub _ _ h1) h2 ys hl hm q)
            · exact q.elim
          · exact q.elim
        · exact q.elim
      | _ => exact q.elim
    | _ => exact q.elim
section
variable {C : CL} {X : Cx} {W : WX} {tg elt : Expr} {ifs : List Expr} {pos : Pos}
theorem dn_lcK {iter : Expr} {i : Nat} {scope : Scope} {own : List (Str × Nat)} {t : Tg} {c : List Sl → R Bool} {m : List Sl → R D} (hx : PE X iter (tVar i)) (hc : X.calm = true) (hN : X.N.Nodup) (ok : blkC X.N X.env.scope scope own = true)
    (hv : ∀ j ∈ t.slots, j ∈ own.map (·.2))
    (hg : ∀ (s : Shared) (H : Hp) (Ca : Addr) (cl : List (Str × Addr)) (fp : List Addr), PG (X.blk s H scope (compEnvC scope cl Ca X.env) fp) tg (t.g X.K))
    (ht : ∀ (s : Shared) (H : Hp) (Ca : Addr) (cl : List (Str × Addr)) (fp : List Addr), DTs C (X.blk s H scope (compEnvC scope cl Ca X.env) fp) W0 ifs c)
    (he : ∀ (s : Shared) (H : Hp) (Ca : Addr) (cl : List (Str × Addr)) (fp : List Addr), DE C (X.blk s H scope (compEnvC scope cl Ca X.env) fp) W0 elt m) (hs : ∀ x, foldedSetIterable iter X.env x = pure x := by intro _; rfl) :
    DN C X W (.ListComp elt [⟨tg, iter, ifs, 0⟩] scope pos) (mLcK i t (own.map (·.2)) c m) := by
  have P := pe_lc (pos := pos) (te := cE C X.K W0 m) (tt := cT C X.K W0 c) hc hN (pi_keys (tg := tg) hx) (blkOk_by ok) hg (fun s H Ca cl fp => (ht s H Ca cl fp).run) (fun s H Ca cl fp => (he s H Ca cl fp).run) hs
  refine .of ⟨_, pe_or2 (pe_lock P) P, fun F0 H0 F H σ S o Q q => ?_⟩
  -- what is to be done, once the dict and what stands for it are known
  exact lock_or hv o q
/-- name = [.. for k in d ..] on one line -/
theorem ps_lcKN {iter : Expr} {i j : Nat} {y : Str} {py spos : Pos} {scope : Scope} {own : List (Str × Nat)} {t : Tg} {c : List Sl → R Bool} {m : List Sl → R D} (hx : PE X iter (tVar j)) (hc : X.calm = true) (hN : X.N.Nodup)
    (hy : X.N[i]? = some y) (hyl : X.env.scope.names.lookup y = some .local) (hsw : swapsWith (.ListComp elt [⟨tg, iter, ifs, 0⟩] scope pos) (some (.Name y py)) spos.line X.env = pure true) (ok : blkC X.N X.env.scope scope own = true)
    (hv : ∀ j ∈ t.slots, j ∈ own.map (·.2))
    (hg : ∀ (s : Shared) (H : Hp) (Ca : Addr) (cl : List (Str × Addr)) (fp : List Addr), PG (X.blk s H scope (compEnvC scope cl Ca X.env) fp) tg (t.g X.K))
    (ht : ∀ (s : Shared) (H : Hp) (Ca : Addr) (cl : List (Str × Addr)) (fp : List Addr), DTs C (X.blk s H scope (compEnvC scope cl Ca X.env) fp) W0 ifs c)
    (he : ∀ (s : Shared) (H : Hp) (Ca : Addr) (cl : List (Str × Addr)) (fp : List Addr), DE C (X.blk s H scope (compEnvC scope cl Ca X.env) fp) W0 elt m) (hs : ∀ x, foldedSetIterable iter X.env x = pure x := by intro _; rfl) :
    PS X (.Assign [.Name y py] (.ListComp elt [⟨tg, iter, ifs, 0⟩] scope pos) spos) (tAsg (cN C X.K W (mLcK j t (own.map (·.2)) c m)) (gName i)) := by
  have P := ps_setLc (te := cE C X.K W0 m) (tt := cT C X.K W0 c) hc hN hy hyl hsw (pi_keys (tg := tg) hx) (blkOk_by ok) hg (fun s H Ca cl fp => (ht s H Ca cl fp).run) (fun s H Ca cl fp => (he s H Ca cl fp).run) hs
  refine ⟨fun pins s σ H E I ⟨F0, H0, F, S, o, q⟩ => ?_⟩
  rcases lock_or hv o q with q | q
  · exact (ps_lock P).run pins s σ H E I q
  · exact P.run pins s σ H E I q
end
/-! ### min(xs, key=abs): the one that is nearest to nought -/
def distA : List Int → Bool
  | [] => true
  | x :: xs => (xs.all fun y => decide (x.natAbs ≠ y.natAbs)) && distA xs
def minA : List Int → Option Int
  | [] => none
  | x :: xs => match minA xs with
    | none => some x
    | some y => some (if x.natAbs ≤ y.natAbs then x else y)
theorem minA_spec : ∀ {xs : List Int} {m : Int}, minA xs = some m → m ∈ xs ∧ ∀ y ∈ xs, m.natAbs ≤ y.natAbs
  | [], _, h => by cases h
  | x :: xs, m, h => by
    unfold minA at h
    cases e : minA xs with
    | none =>
      rw [e] at h
      cases h
      cases xs with
      | nil => exact ⟨by simp, fun y hy => by simp at hy; rw [hy]; exact Nat.le_refl _⟩
      | cons z zs =>
        unfold minA at e
        cases e2 : minA zs with
        | none => rw [e2] at e; cases e
        | some w => rw [e2] at e; cases e
    | some w =>
      rw [e] at h
      obtain ⟨h1, h2⟩ := minA_spec e
      simp only [Option.some.injEq] at h
      subst h
      split
      · rename_i c
        refine ⟨by simp, fun y hy => ?_⟩
        rcases List.mem_cons.mp hy with rfl | hy
        · exact Nat.le_refl _
        · exact Nat.le_trans c (h2 y hy)
      · rename_i c
        refine ⟨List.mem_cons_of_mem _ h1, fun y hy => ?_⟩
        rcases List.mem_cons.mp hy with rfl | hy
        · omega
        · exact h2 y hy
theorem distA_eq : ∀ {xs : List Int} {a b : Int}, distA xs = true → a ∈ xs → b ∈ xs → a.natAbs = b.natAbs → a = b
  | [], _, _, _, h, _, _ => by cases h
  | x :: xs, a, b, d, ha, hb, e => by
    have d' : ((xs.all fun y => decide (x.natAbs ≠ y.natAbs)) && distA xs) = true := d
    rw [Bool.and_eq_true] at d'
    have hd : ∀ y ∈ xs, x.natAbs ≠ y.natAbs := fun y hy => of_decide_eq_true (List.all_eq_true.mp d'.1 y hy)
    rcases List.mem_cons.mp ha with ea | ha'
    · rcases List.mem_cons.mp hb with eb | hb'
      · exact ea.trans eb.symm
      · exact absurd (by rw [← ea]; exact e) (hd b hb')
    · rcases List.mem_cons.mp hb with eb | hb'
      · exact absurd (by rw [← eb]; exact e.symm) (hd a ha')
      · exact distA_eq d'.2 ha' hb' e
def minAbsD : D → R D
  | .lst ds => match intsD ds with
    | some ns => if distA ns = true then (match minA ns with | some m => .ok (.int m) | none => .bad) else .bad
    | none => .bad
  | _ => .bad
section
variable {C : CL} {X : Cx} {W : WX} {e : Expr} {pos p p2 kpos : Pos}
theorem de_min_abs {m : List Sl → R (List D)} (hc : X.calm = true) (hg : Gl X "min") (hg2 : Gl X "abs") (hm : X.mg "min" = none) (hm2 : X.mg "abs" = none) (ha : DA C X W [e] m)
    (hse : backTo pos (starEach [e] X.env) = [(false, eval e X.env)] := by rfl) (hpl : (backTo pos (starEach [e] X.env)).any (·.1) = false := by rfl) : DE C X W (.Call (.Name "min" p) [e] [⟨some "key", .Name "abs" p2, kpos⟩] pos) (fun S => (m S).bind (on1 minAbsD)) := by
  obtain ⟨ta, pa, ka⟩ := ha.ex
  refine .of ⟨_, pe_min_abs hc hg hg2 hm hm2 pa hse hpl, fun F0 H0 F H σ S o Q q => ?_⟩
  refine ka _ _ _ _ _ _ o _ (PostA.to (gE Q) q fun xs vs F1 H1 e1 w1 q1 => ?_)
  match xs, w1, q1 with
  | [x], w1, q1 =>
    obtain ⟨v, ev, w2⟩ := w1.c1
    subst ev
    cases x with
    | lst ds =>
      obtain ⟨a, vs, rfl, ha, ra⟩ := w2.isLst e1.fh
      simp only [on1, minAbsD] at q1
      split at q1
      · rename_i ns h
        split at q1
        · rename_i hd
          split at q1
          · rename_i m0 hm0
            obtain ⟨h1, h2⟩ := minA_spec hm0
            have ev := ints_rp ra h
            subst ev
            refine ⟨a, ns, rfl, SqL.of ha, List.length_pos_of_mem h1, fun m hm hmin => ?_⟩
            have := distA_eq hd hm h1 (Nat.le_antisymm (hmin _ h1) (h2 _ hm))
            subst this
            exact q1 _ F1 H1 (Ext.refl e1.fh) (.int _)
          · exact q1.elim
        · exact q1.elim
      · exact q1.elim
    | _ => exact q1.elim
  | [], _, q1 => exact q1.elim
  | _ :: _ :: _, _, q1 => exact q1.elim
end
end DL
/-! The data layer, part J: list.reverse, a dict of one pair, a def that calls itself. -/
namespace DL
open PySem L2
def mRev (i : Nat) (S : List Sl) : SO := match S[i]? with
  | some (.ol ds) => .nx (S.set i (.ol ds.reverse))
  | _ => .bad
theorem RpA.rev {K : PySem.W.Frag} {F : Hp} : ∀ {vs : List V} {ds : List D}, RpA K F vs ds → RpA K F vs.reverse ds.reverse
  | [], _, h => by cases h; exact .nil
  | v :: vs, _, h => by
    cases h with
    | cons h1 h2 =>
      rw [List.reverse_cons, List.reverse_cons]
      exact (RpA.rev h2).app (.one h1)
section
variable {C : CL} {X : Cx} {W : WX} {e : Expr} {pos : Pos}
theorem ds_rev {o : Expr} {i : Nat} {apos cpos : Pos} (ho : PE X o (tVar i)) (hbase : attributeBase o "reverse" X.env (eval o X.env) = eval o X.env := by rfl) (hline : (apos.endLine == cpos.line) = true := by rfl)
    (hsw : swapsWith (.Call (.Attribute o "reverse" apos) [] [] cpos) none pos.line X.env = pure false := by rfl) : DS C X W (.Expr (.Call (.Attribute o "reverse" apos) [] [] cpos) pos) (mRev i) := by
  refine .of ⟨_, ps_expr (pe_bm0 PySem.F.plainAttrs_list PySem.F.slot_list_reverse PySem.F.type_list_reverse mt_reverse ho hbase hline) hsw, fun F0 H0 F H σ S ok E q => ?_⟩
  unfold mRev at q
  split at q
  · rename_i ds hd
    obtain ⟨v, h1, a, vs, h2, h3, h4, h5⟩ := ok.at hd
    subst h2
    refine ⟨_, h1, .inl ⟨rfl, vs, SqL.of h4⟩, a, vs, rfl, rfl, h4, ?_⟩
    exact q σ F _ (ok.write hd h1 (.inl ⟨_, rfl⟩) rfl fun O hO _ => ⟨a, _, rfl, hO, upd_same, h5.rev⟩)
  · exact q.elim
/-- {k: v}, the key an int -/
def mOne (mk m : List Sl → R D) (S : List Sl) : R (List (Int × D)) := (mk S).bind fun k => (m S).bind fun d => match k with
  | .int i => .ok [(i, d)]
  | _ => .bad
theorem dnd_one {ek : Expr} {mk m : List Sl → R D} (hk : DR C X W ek mk) (he : DE C X W e m) : DND C X W (.Dict [some ek] [e] pos) (mOne mk m) := by
  obtain ⟨tk, pk, kk⟩ := hk.ex
  obtain ⟨te, pe, ke⟩ := he.ex
  refine .of ⟨_, pe_disp (pps_cons pk pe pps_nil) rfl rfl (by simp) (by simp), fun F0 H0 F H σ S o Q q p hp => ?_⟩
  have e0 := Ext.newO (o := HO.dK []) o.sub hp
  refine kk _ _ _ _ _ _ (o.up e0) _ ?_
  have q' : PostND C X.K W σ F H (mOne mk m S) Q := q
  unfold mOne at q'
  have hfp : F p = none := none_of o.sub hp
  cases hm : mk S with
  | ok k =>
    rw [hm] at q'
    simp only [R.bind_ok] at q'
    intro v F1 H1 e1 w1
    refine ke _ _ _ _ _ _ ((o.up e0).up e1) _ ?_
    cases hd : m S with
    | ok d =>
      rw [hd] at q'
      simp only [R.bind_ok] at q'
      intro u F2 H2 e2 r2
      cases k with
      | int i =>
        cases w1.isInt
        have h2 : H2 p = some (.dK []) := e2.hh _ _ (e1.hh _ _ upd_same)
        have f2 : F2 p = none := (e2.old p _ (e1.hh _ _ upd_same) rfl).trans ((e1.old p _ upd_same rfl).trans hfp)
        refine ⟨h2, [((Sum.inl i : Key), u)], rfl, by simp, ?_⟩
        have e3 : Same F2 (upd H2 p (.dK [((Sum.inl i : Key), u)])) := fun a w ha => by
          have na : a ≠ p := fun z => by rw [z, f2] at ha; cases ha
          rw [upd_ne na]; exact e2.fh _ _ ha
        refine q' p [((Sum.inl i : Key), u)] F2 (upd H2 p (.dK [((Sum.inl i : Key), u)])) ⟨?_, ?_, ?_, ?_⟩ hp f2 upd_same (.cons r2 .nil)
        · exact fun a w ha => e2.ff _ _ (e1.ff _ _ ha)
        · exact e3
        · intro a w ha
          have na : a ≠ p := fun z => by rw [z, hp] at ha; cases ha
          rw [upd_ne na]
          exact e2.hh _ _ (e1.hh _ _ (by rw [upd_ne na]; exact ha))
        · intro a w ha nt
          have na : a ≠ p := fun z => by rw [z, hp] at ha; cases ha
          have g0 : (upd H p (HO.dK [])) a = some w := by rw [upd_ne na]; exact ha
          exact (e2.old a w (e1.hh _ _ g0) nt).trans (e1.old a w g0 nt)
      | _ => exact q'.elim
    | exc x =>
      rw [hd] at q'
      exact Wish.up q' (e0.trans e1)
    | bad => rw [hd] at q'; exact q'.elim
  | exc x =>
    rw [hm] at q'
    exact Wish.up q' e0
  | bad => rw [hm] at q'; exact q'.elim
/-- a block that promises nothing -/
theorem dss_bad {sts : List Stmt} : DSs C X W sts (fun _ => SO.bad) := ⟨⟨fun pins s σ H E I ⟨F0, H0, F, S, o, q⟩ => q.elim⟩⟩
end
end DL
/-! The data layer, part K: what comes back is one's own; a raise; a try. -/
namespace DL
open PySem L2
open PyProof.Rows (envOfC)

/-! ### a new list or dict comes back -/
def mRetN (m : List Sl → R (List D)) (S : List Sl) : SO := toSL (m S) S fun ds => .rl ds
def mRetND (m : List Sl → R (List (Int × D))) (S : List Sl) : SO := toSL (m S) S fun ds => .rd ds
def mRetO (i : Nat) (S : List Sl) : SO := match S[i]? with
  | some (.ol ds) => .rl ds
  | some (.od es) => .rd es
  | _ => .bad
section
variable {C : CL} {X : Cx} {W : WX} {e : Expr} {pos : Pos}
theorem ds_retN {m : List Sl → R (List D)} (he : DN C X W e m) : DS C X W (.Return (some e) pos) (mRetN m) := by
  obtain ⟨t, p, k⟩ := he.ex
  refine .of ⟨_, ps_ret p, fun F0 H0 F H σ S o E q => k _ _ _ _ _ _ o _ (PostN.ofS o q fun ds a vs F1 H1 e1 o1 h0 hf hp ra q1 => ?_)⟩
  exact q1 a vs F1 H1 o1.ext (o.h0.free h0) hf hp ra
theorem ds_retND {m : List Sl → R (List (Int × D))} (he : DND C X W e m) : DS C X W (.Return (some e) pos) (mRetND m) := by
  obtain ⟨t, p, k⟩ := he.ex
  refine .of ⟨_, ps_ret p, fun F0 H0 F H σ S o E q => k _ _ _ _ _ _ o _ (PostND.ofS o q fun ds a vs F1 H1 e1 o1 h0 hf hp ra q1 => ?_)⟩
  exact q1 a vs F1 H1 o1.ext (o.h0.free h0) hf hp ra
theorem ds_retO {i : Nat} (he : PE X e (tVar i)) : DS C X W (.Return (some e) pos) (mRetO i) := by
  refine .of ⟨_, ps_ret he, fun F0 H0 F H σ S o E q => ?_⟩
  unfold mRetO at q
  split at q
  · rename_i ds hd
    obtain ⟨v, h1, p, vs, h2, h3, h4, h5⟩ := o.at hd
    subst h2
    exact ⟨_, h1, q p vs F H o.ext (o.ownNone hd rfl h1).2.1 h3 h4 h5⟩
  · rename_i ds hd
    obtain ⟨v, h1, p, vs, h2, h3, h4, h5⟩ := o.at hd
    subst h2
    exact ⟨_, h1, q p vs F H o.ext (o.ownNone hd rfl h1).2.1 h3 h4 h5⟩
  · exact q.elim
end
/-- a result: a value, a new list, a new dict -/
inductive RO where
  | ok (d : D) | ol (ds : List D) | od (es : List (Int × D)) | exc (e : Exn) | bad
def RO.toR : RO → R D
  | .ok d => .ok d
  | .ol ds => .ok (.lst ds)
  | .od es => .ok (.dct es)
  | .exc e => .exc e
  | .bad => .bad
def RO.toN : RO → R (List D)
  | .ol ds => .ok ds
  | .exc e => .exc e
  | _ => .bad
def RO.toND : RO → R (List (Int × D))
  | .od es => .ok es
  | .exc e => .exc e
  | _ => .bad
def PostO' (C : CL) (K : PySem.W.Frag) (W : WX) (σ : St) (F H : Hp) (r : RO) (Q : VK) : Prop := match r with
  | .ok x => ∀ v F' H', Ext F H F' H' → Rp K F' v x → Q v H'
  | .ol ds => ∀ p vs F' H', Ext F H F' H' → H p = none → F' p = none → H' p = some (.lst vs) → RpA K F' vs ds → Q (.ref p) H'
  | .od ds => ∀ p vs F' H', Ext F H F' H' → H p = none → F' p = none → H' p = some (.dK vs) → RpK K F' vs ds → Q (.ref p) H'
  | .exc e => Wish C W σ F H e
  | .bad => False
def spO (C : CL) (K : PySem.W.Frag) (n : Nat) (f : List D → RO) : Sp := fun vs H Q E =>
  ∃ F ds, Same F H ∧ RpA K F vs ds ∧ vs.length = n ∧ PostO' C K (fun cls d _ H => E cls d H) [] F H (f ds) Q
structure DefO (P : Program) (w : World) (K : PySem.W.Frag) (mg : Str → Option Value) (base : Heap) (C : CL) (k : Nat) (x : Str) (ps : List Str) (f : List D → RO) : Prop where
  ex : ∃ (a : Addr) (fd : FuncData), FnOk P w K mg base (L2.CX P w) k a fd ps (spO C K ps.length f) ∧ mg x = some (.ref a) ∧ PySem.W.keepIn K (.ref a) = true ∧ Binds K fd ps []
def runDefO (n np : Nat) (m : List Sl → SO) (ds : List D) : RO :=
  match m (ds.map Sl.fz ++ List.replicate (n - np) Sl.un) with
  | .nx _ => .ok .non
  | .rt d => .ok d
  | .rl ds => .ol ds
  | .rd ds => .od ds
  | .ex e _ => .exc e
  | _ => .bad
section
variable {P : Program} {w : World} {K : PySem.W.Frag} {mg : Str → Option Value} {base : Heap} {C : CL}
theorem DefO.mk' {x qual : Str} {st : Stmt} {f : Addr} {fd : FuncData} {N ps : List Str} {k n np : Nat} {m : List Sl → SO} (hn : N.length = n) (hnp : ps.length = np) (F : Fun K x qual st f fd) (S : FnScope N ps (defScope st)) (hm : mg x = some (.ref f)) (hb : Binds K fd ps [])
    (body : ∀ (cdv : Value) (A : Around) (outer : List Env) (s : Shared) (H : Hp) (E : XK), Room k (A.deeper (envOfC qual (defScope st) s.heap.objs.size f cdv)) →
      DSs C (cxOf (L2.CX P w) P w K mg base N qual (defScope st) f cdv A outer s H E) (fun cls d _ H => E cls d H) (defBody st) m) : DefO P w K mg base C (k + 1) x ps (runDefO n np m) := by
  subst hn hnp
  refine ⟨f, fd, F.okX S (fun vs H Q E ⟨_, _, _, _, hl, _⟩ => hl) (fun cdv A outer s H vs Q E hr ⟨F', ds, e, ra, hl, q⟩ => ?_), hm, F.kp, hb⟩
  refine ⟨_, (body cdv A outer s H E hr).run, F', H, F', _, start_ok e ra, ?_⟩
  unfold runDefO at q
  rw [← hl] at q
  cases h : m (ds.map Sl.fz ++ List.replicate (N.length - vs.length) Sl.un) with
  | nx S => rw [h] at q; exact fun σ F1 H1 o => q .non F1 H1 o.ext .non
  | rt d => rw [h] at q; exact fun v F1 H1 o r => q v F1 H1 o r
  | ex e S => rw [h] at q; exact fun σ F1 H1 o cls d F2 H2 e2 z => q cls d F2 H2 (o.ext.trans e2) z
  | rl d => rw [h] at q; exact q
  | rd d => rw [h] at q; exact q
  | bk S => rw [h] at q; exact q.elim
  | ct S => rw [h] at q; exact q.elim
  | bad => rw [h] at q; exact q.elim
  | rs d S => rw [h] at q; exact q.elim
theorem PostO'.of_post {W : WX} {σ : St} {F H : Hp} {r : RO} {Q : VK} (h : Post C K W σ F H r.toR Q) : PostO' C K W σ F H r Q := by
  cases r with
  | ok x => exact h
  | ol ds => exact fun p vs F' H' e h0 hf hp ra => h (.ref p) (upd F' p (.lst vs)) H' (e.froz h0 hp hf) (.lst upd_same (ra.up (same_new hf)))
  | od ds => exact fun p vs F' H' e h0 hf hp ra => h (.ref p) (upd F' p (.dK vs)) H' (e.froz h0 hp hf) (.dct (.inl upd_same) (ra.up (same_new hf)))
  | exc e => exact h
  | bad => exact h
/-- .. known to all -/
theorem DefO.d {k : Nat} {x : Str} {ps : List Str} {f : List D → RO} (h : DefO P w K mg base C k x ps f) : Def P w K mg base C k x ps (fun ds => (f ds).toR) := by
  obtain ⟨a, fd, F, h1, h2, h3⟩ := h.ex
  exact ⟨a, fd, F.imp fun vs H Q E ⟨F', ds, e, ra, hl, q⟩ => ⟨F', ds, e, ra, hl, .of_post q⟩, h1, h2, h3⟩
end
/-- all are numbers, truths, texts, None -/
def scalL (ds : List D) : R (List D) := if ds.all flatD = true then .ok ds else .bad
theorem flat_tr {K : PySem.W.Frag} {F G : Hp} {v : V} {d : D} (h : flatD d = true) (r : Rp K F v d) : Rp K G v d := by
  cases r <;> first | exact absurd (show false = true from h) Bool.false_ne_true | constructor
theorem flats_tr {K : PySem.W.Frag} {F G : Hp} : ∀ {vs : List V} {ds : List D}, ds.all flatD = true → RpA K F vs ds → RpA K G vs ds
  | _, [], _, h => by cases h; exact .nil
  | _, d :: ds, n, h => by
    rw [List.all_cons, Bool.and_eq_true] at n
    cases h with
    | cons h1 h2 => exact .cons (flat_tr n.1 h1) (flats_tr n.2 h2)
section
variable {C : CL} {X : Cx} {W : WX} {e : Expr} {es : List Expr} {pos p : Pos} {x : Str}
/-- f(..), a new list comes back: arguments known to all -/
theorem dn_callO {k j : Nat} {ps : List Str} {g : List D → RO} {m : List Sl → R (List D)} (F : DefO X.prog X.w X.K X.mg X.base C k x ps g) (hr : Room j X.A) (hk : k ≤ j) (tk : Takes X W) (hg : Gl X x) (ha : DAR C X W (e :: es) m) (hml : ∀ S xs, m S = .ok xs → xs.length = ps.length)
    (hdb : (x == ("__debug__" : Str)) = false := by decide) (he : starEach (e :: es) X.env = (false, eval e X.env) :: starEach es X.env := by rfl) (hpl : (backTo pos (starEach es X.env)).any (·.1) = false := by rfl) :
    DN C X W (.Call (.Name x p) (e :: es) [] pos) (fun S => (m S).bind fun xs => (g xs).toN) := by
  obtain ⟨a, fd, fn, mgx, kp, hb⟩ := F.ex
  obtain ⟨ta, pa, ka⟩ := ha.ex
  refine .of ⟨_, pe_callS (E := WE W) fn (hr.mono hk) hg mgx kp hb (fun σ => passAt tk σ) pa hdb he hpl, fun F0 H0 F H σ S o Q q => ?_⟩
  have hm2 := hml S
  cases hm : m S with
  | ok xs =>
    rw [hm] at q
    refine ka _ _ _ _ _ _ o _ ?_
    rw [hm]
    intro vs F1 H1 e1 r1
    refine ⟨F1, xs, e1.fh, r1, by rw [r1.len]; exact hm2 xs hm, ?_⟩
    have q1 : PostN C X.K W σ F1 H1 (g xs).toN Q := PostN.up q e1
    cases h : g xs with
    | ol z => rw [h] at q1; exact q1
    | exc z => rw [h] at q1; exact q1
    | ok z => rw [h] at q1; exact q1.elim
    | od z => rw [h] at q1; exact q1.elim
    | bad => rw [h] at q1; exact q1.elim
  | exc z => rw [hm] at q; refine ka _ _ _ _ _ _ o _ ?_; rw [hm]; exact q
  | bad => rw [hm] at q; exact q.elim
theorem dnd_callO {k j : Nat} {ps : List Str} {g : List D → RO} {m : List Sl → R (List D)} (F : DefO X.prog X.w X.K X.mg X.base C k x ps g) (hr : Room j X.A) (hk : k ≤ j) (tk : Takes X W) (hg : Gl X x) (ha : DAR C X W (e :: es) m) (hml : ∀ S xs, m S = .ok xs → xs.length = ps.length)
    (hdb : (x == ("__debug__" : Str)) = false := by decide) (he : starEach (e :: es) X.env = (false, eval e X.env) :: starEach es X.env := by rfl) (hpl : (backTo pos (starEach es X.env)).any (·.1) = false := by rfl) :
    DND C X W (.Call (.Name x p) (e :: es) [] pos) (fun S => (m S).bind fun xs => (g xs).toND) := by
  obtain ⟨a, fd, fn, mgx, kp, hb⟩ := F.ex
  obtain ⟨ta, pa, ka⟩ := ha.ex
  refine .of ⟨_, pe_callS (E := WE W) fn (hr.mono hk) hg mgx kp hb (fun σ => passAt tk σ) pa hdb he hpl, fun F0 H0 F H σ S o Q q => ?_⟩
  have hm2 := hml S
  cases hm : m S with
  | ok xs =>
    rw [hm] at q
    refine ka _ _ _ _ _ _ o _ ?_
    rw [hm]
    intro vs F1 H1 e1 r1
    refine ⟨F1, xs, e1.fh, r1, by rw [r1.len]; exact hm2 xs hm, ?_⟩
    have q1 : PostND C X.K W σ F1 H1 (g xs).toND Q := PostND.up q e1
    cases h : g xs with
    | od z => rw [h] at q1; exact q1
    | exc z => rw [h] at q1; exact q1
    | ok z => rw [h] at q1; exact q1.elim
    | ol z => rw [h] at q1; exact q1.elim
    | bad => rw [h] at q1; exact q1.elim
  | exc z => rw [hm] at q; refine ka _ _ _ _ _ _ o _ ?_; rw [hm]; exact q
  | bad => rw [hm] at q; exact q.elim
/-- .. any arguments, a new list of plain things comes back -/
theorem dn_callOV {k j : Nat} {ps : List Str} {g : List D → RO} {m : List Sl → R (List D)} (F : DefO X.prog X.w X.K X.mg X.base C k x ps g) (hr : Room j X.A) (hk : k ≤ j) (tk : Takes X W) (hg : Gl X x) (ha : DA C X W (e :: es) m) (hml : ∀ S xs, m S = .ok xs → xs.length = ps.length)
    (hdb : (x == ("__debug__" : Str)) = false := by decide) (he : starEach (e :: es) X.env = (false, eval e X.env) :: starEach es X.env := by rfl) (hpl : (backTo pos (starEach es X.env)).any (·.1) = false := by rfl) :
    DN C X W (.Call (.Name x p) (e :: es) [] pos) (fun S => (m S).bind fun xs => ((g xs).toN).bind scalL) := by
  obtain ⟨a, fd, fn, mgx, kp, hb⟩ := F.ex
  obtain ⟨ta, pa, ka⟩ := ha.ex
  refine .of ⟨_, pe_callS (E := WE W) fn (hr.mono hk) hg mgx kp hb (fun σ => passAt tk σ) pa hdb he hpl, fun F0 H0 F H σ S o Q q => ?_⟩
  have hm2 := hml S
  cases hm : m S with
  | ok xs =>
    rw [hm] at q
    refine ka _ _ _ _ _ _ o _ ?_
    rw [hm]
    intro vs F1 H1 e1 w1
    have r1 := w1.rp e1.fh
    refine ⟨H1, xs, Same.refl _, r1, by rw [r1.len]; exact hm2 xs hm, ?_⟩
    have q1 : PostN C X.K W σ F1 H1 ((g xs).toN.bind scalL) Q := PostN.up q e1
    have back : ∀ F2 H2, Ext H1 H1 F2 H2 → Ext F1 H1 F1 H2 := fun F2 H2 e2 => ⟨Same.refl _, e1.fh.trans e2.hh, e2.hh, fun _ _ _ _ => rfl⟩
    cases h : g xs with
    | ol z =>
      rw [h] at q1
      show ∀ p vs F' H', _
      intro p vs F2 H2 e2 h0 hf hp ra
      by_cases c : z.all flatD = true
      · have q2 : PostN C X.K W σ F1 H1 (.ok z) Q := by
          have : ((RO.ol z).toN.bind scalL) = .ok z := by show scalL z = _; unfold scalL; rw [if_pos c]
          rw [this] at q1; exact q1
        exact q2 p vs F1 H2 (back _ _ e2) h0 (none_of e1.fh h0) hp (flats_tr c ra)
      · have : ((RO.ol z).toN.bind scalL) = .bad := by show scalL z = _; unfold scalL; rw [if_neg c]
        rw [this] at q1; exact q1.elim
    | exc z => rw [h] at q1; exact fun cls d F2 H2 e2 y => q1 cls d F1 H2 (back _ _ e2) y
    | ok z => rw [h] at q1; exact q1.elim
    | od z => rw [h] at q1; exact q1.elim
    | bad => rw [h] at q1; exact q1.elim
  | exc z => rw [hm] at q; refine ka _ _ _ _ _ _ o _ ?_; rw [hm]; exact q
  | bad => rw [hm] at q; exact q.elim
end

/-! ### tuples of plain things may be learnt -/
mutual
def flatT : D → Bool
  | .tup ds => flatTA ds
  | d => flatD d
def flatTA : List D → Bool
  | [] => true
  | d :: ds => flatT d && flatTA ds
end
mutual
theorem learnT {K : PySem.W.Frag} {F2 H : Hp} (e2 : Same F2 H) : ∀ (d : D) (v : V) (F1 : Hp), flatT d = true → Same F1 H → Rp K F2 v d → ∃ G, Same F1 G ∧ Same G H ∧ (∀ a u, G a = some u → F1 a = none → notTup u = false) ∧ Rp K G v d
  | .tup ds, v, F1, n, s, h => by
    cases h with
    | tup h1 h2 =>
      obtain ⟨G, g1, g2, g3, g4⟩ := learnTA e2 ds _ F1 n s h2
      refine ⟨learn G _ (.tup _), g1.trans (learn_same g2 (e2 _ _ h1)), learn_sub g2 (e2 _ _ h1), fun a u h hn => ?_, .tup learn_at (g4.up (learn_same g2 (e2 _ _ h1)))⟩
      rcases learn_inv h with ⟨_, e⟩ | h
      · subst e; rfl
      · exact g3 a u h hn
  | .non, v, F1, n, s, h => ⟨F1, Same.refl _, s, (fun a u h hn => by rw [hn] at h; cases h), flat_tr rfl h⟩
  | .bl _, v, F1, n, s, h => ⟨F1, Same.refl _, s, (fun a u h hn => by rw [hn] at h; cases h), flat_tr rfl h⟩
  | .int _, v, F1, n, s, h => ⟨F1, Same.refl _, s, (fun a u h hn => by rw [hn] at h; cases h), flat_tr rfl h⟩
  | .str _, v, F1, n, s, h => ⟨F1, Same.refl _, s, (fun a u h hn => by rw [hn] at h; cases h), flat_tr rfl h⟩
  | .lst _, v, F1, n, s, h => by cases n
  | .dct _, v, F1, n, s, h => by cases n
  | .scr _, v, F1, n, s, h => by cases n
theorem learnTA {K : PySem.W.Frag} {F2 H : Hp} (e2 : Same F2 H) : ∀ (ds : List D) (vs : List V) (F1 : Hp), flatTA ds = true → Same F1 H → RpA K F2 vs ds → ∃ G, Same F1 G ∧ Same G H ∧ (∀ a u, G a = some u → F1 a = none → notTup u = false) ∧ RpA K G vs ds
  | [], vs, F1, n, s, h => by cases h; exact ⟨F1, Same.refl _, s, (fun a u h hn => by rw [hn] at h; cases h), .nil⟩
  | d :: ds, vs, F1, n, s, h => by
    cases h with
    | cons h1 h2 =>
      have n' : (flatT d && flatTA ds) = true := n
      rw [Bool.and_eq_true] at n'
      obtain ⟨G, g1, g2, g3, g4⟩ := learnT e2 d _ F1 n'.1 s h1
      obtain ⟨G', k1, k2, k3, k4⟩ := learnTA e2 ds _ G n'.2 g2 h2
      refine ⟨G', g1.trans k1, k2, fun a u h hn => ?_, .cons (g4.up k1) k4⟩
      cases z : G a with
      | none => exact k3 a u h z
      | some w =>
        have := k1 a w z
        rw [h] at this
        cases this
        exact g3 a u z hn
end
def flatR (d : D) : R D := if flatT d = true then .ok d else .bad
section
variable {C : CL} {X : Cx} {W : WX} {e : Expr} {es : List Expr} {pos p : Pos} {x : Str}
/-- f(..): any arguments, a tuple of plain things comes back -/
theorem de_callTup {k j : Nat} {ps : List Str} {g : List D → R D} {m : List Sl → R (List D)} (F : Def X.prog X.w X.K X.mg X.base C k x ps g) (hr : Room j X.A) (hk : k ≤ j) (tk : Takes X W) (hg : Gl X x) (ha : DA C X W (e :: es) m) (hml : ∀ S xs, m S = .ok xs → xs.length = ps.length)
    (hdb : (x == ("__debug__" : Str)) = false := by decide) (he : starEach (e :: es) X.env = (false, eval e X.env) :: starEach es X.env := by rfl) (hpl : (backTo pos (starEach es X.env)).any (·.1) = false := by rfl) :
    DE C X W (.Call (.Name x p) (e :: es) [] pos) (fun S => (m S).bind fun xs => (g xs).bind flatR) := by
  obtain ⟨a, fd, fn, mgx, kp, hb⟩ := F.ex
  obtain ⟨ta, pa, ka⟩ := ha.ex
  refine .of ⟨_, pe_callS (E := WE W) fn (hr.mono hk) hg mgx kp hb (fun σ => passAt tk σ) pa hdb he hpl, fun F0 H0 F H σ S o Q q => ?_⟩
  have hm2 := hml S
  cases hm : m S with
  | ok xs =>
    rw [hm] at q
    refine ka _ _ _ _ _ _ o _ ?_
    rw [hm]
    intro vs F1 H1 e1 w1
    have r1 := w1.rp e1.fh
    refine ⟨H1, xs, Same.refl _, r1, by rw [r1.len]; exact hm2 xs hm, ?_⟩
    have q1 : Post C X.K W σ F1 H1 ((g xs).bind flatR) Q := Post.up q e1
    have back : ∀ F2 H2, Ext H1 H1 F2 H2 → Ext F1 H1 F1 H2 := fun F2 H2 e2 => ⟨Same.refl _, e1.fh.trans e2.hh, e2.hh, fun _ _ _ _ => rfl⟩
    cases h : g xs with
    | ok z =>
      rw [h] at q1
      simp only [R.bind_ok] at q1
      by_cases c : flatT z = true
      · have : flatR z = .ok z := if_pos c
        rw [this] at q1
        intro v F2 H2 e2 r2
        obtain ⟨G, g1, g2, g3, g4⟩ := learnT e2.fh z v F1 c (e1.fh.trans e2.hh) r2
        refine q1 v G H2 ⟨g1, g2, e2.hh, fun a u h n => ?_⟩ g4
        cases z1 : F1 a with
        | some w => exact g1 a w z1
        | none =>
          cases z2 : G a with
          | none => rfl
          | some w =>
            exfalso
            have h5 := g3 a w z2 z1
            have h6 := g2 a w z2
            rw [e2.hh a u h] at h6
            cases h6
            rw [n] at h5; cases h5
      · have : flatR z = .bad := if_neg c
        rw [this] at q1; exact q1.elim
    | exc z => rw [h] at q1; exact fun cls d F2 H2 e2 y => q1 cls d F1 H2 (back _ _ e2) y
    | bad => rw [h] at q1; exact q1.elim
  | exc z => rw [hm] at q; refine ka _ _ _ _ _ _ o _ ?_; rw [hm]; exact q
  | bad => rw [hm] at q; exact q.elim
end

/-! ### dict(d), xs.index(k), d.pop(k, None) -/
def CallND (X : Cx) (f : Value) (g : List D → R (List (Int × D))) : Prop :=
  ∃ r : List V → Hp → VK → Prop, CallR X f r ∧ ∀ (C : CL) (W : WX) (σ : St) F H xs vs Q, Same F H → VwA X.K F H vs xs → PostND C X.K W σ F H (g xs) Q → r vs H Q
def dctD : List D → R (List (Int × D))
  | [.dct es] => .ok es
  | _ => .bad
section
variable {C : CL} {X : Cx} {W : WX} {e : Expr} {es : List Expr} {pos p : Pos} {x : Str}
theorem dnd_dict {m : List Sl → R (List D)} (hg : Gl X "dict") (hm : X.mg "dict" = none) (ha : DA C X W [e] m)
    (he : starEach [e] X.env = (false, eval e X.env) :: starEach [] X.env := by rfl) (hpl : (backTo pos (starEach [] X.env)).any (·.1) = false := by rfl) : DND C X W (.Call (.Name "dict" p) [e] [] pos) (fun S => (m S).bind dctD) := by
  obtain ⟨ta, pa, ka⟩ := ha.ex
  refine .of ⟨_, pe_callTy call_dictD hg hm PyProof.Rows.boot_dict pa (by decide) (by decide) he hpl, fun F0 H0 F H σ S o Q q => ?_⟩
  refine ka _ _ _ _ _ _ o _ (PostA.to (gND Q) q fun xs vs F1 H1 e1 w1 q1 => ?_)
  unfold dctD at q1
  split at q1
  · rename_i ds
    obtain ⟨v, ev, w2⟩ := w1.c1
    subst ev
    obtain ⟨a, kvs, rfl, hd, hk⟩ := w2.isDct e1.fh
    exact ⟨a, kvs, rfl, hd, fun l hl => q1 l kvs F1 _ (Ext.newO e1.fh hl) hl (none_of e1.fh hl) upd_same hk⟩
  · exact q1.elim
/-- where a number stands first -/
def idxL (k : Int) : List Int → Option Nat
  | [] => none
  | x :: xs => if x = k then some 0 else (idxL k xs).map (· + 1)
theorem idxL_spec : ∀ {k : Int} {xs : List Int} {j : Nat}, idxL k xs = some j → xs[j]? = some k ∧ ∀ m z, m < j → xs[m]? = some z → z ≠ k
  | k, [], j, h => by cases h
  | k, x :: xs, j, h => by
    unfold idxL at h
    by_cases c : x = k
    · rw [if_pos c] at h; cases h
      exact ⟨by simp [c], fun m z hm => by omega⟩
    · rw [if_neg c] at h
      cases e : idxL k xs with
      | none => rw [e] at h; cases h
      | some i =>
        rw [e] at h; cases h
        obtain ⟨h1, h2⟩ := idxL_spec e
        refine ⟨by simpa using h1, fun m z hm hz => ?_⟩
        cases m with
        | zero => simp at hz; rw [← hz]; exact c
        | succ m =>
          have hm : m + 1 < i + 1 := hm
          exact h2 m z (by omega) (by simpa using hz)
def isLstR : D → R D
  | .lst ds => .ok (.lst ds)
  | _ => .bad
def idxD : D → D → R D
  | .lst ds, .int k => match intsD ds with
    | some ns => match idxL k ns with
      | some j => .ok (.int j)
      | none => .bad
    | none => .bad
  | _, _ => .bad
theorem flat_ints (ns : List Int) : (ns.map V.int).all flatV = true := by
  rw [List.all_eq_true]
  intro v hv
  obtain ⟨n, _, rfl⟩ := List.mem_map.mp hv
  rfl
theorem de_index {o : Expr} {apos cpos : Pos} {ma mb : List Sl → R D} (ho : DR C X W o ma) (he : DR C X W e mb) (hbase : attributeBase o "index" X.env (eval o X.env) = eval o X.env := by rfl)
    (hfew : ((backTo cpos (starEach (e :: []) X.env)).all (fun x => !x.1) && (backToKw cpos (keywordEach [] X.env)).all (fun x => x.1.isSome) && decide ((e :: []).length + ([] : List Keyword).length + (if ([] : List Keyword).isEmpty then 0 else 1) < 30)) = true := by rfl)
    (hline : (apos.endLine == cpos.line) = true := by rfl) (hs : starEach (e :: []) X.env = (false, eval e X.env) :: starEach [] X.env := by rfl) (hplain : (backTo cpos (starEach [] X.env)).any (·.1) = false := by rfl) :
    DE C X W (.Call (.Attribute o "index" apos) [e] [] cpos) (fun S => (ma S).bind fun x => (isLstR x).bind fun x => (mb S).bind fun y => idxD x y) := by
  obtain ⟨ta, pa, ka⟩ := ho.ex
  obtain ⟨tb, pb, kb⟩ := he.ex
  refine .of ⟨_, pe_bm PySem.F.plainAttrs_list PySem.F.slot_list_index PySem.F.type_list_index mt_index pa (pa_cons pb pa_nil hs) hbase hfew hline hs hplain, fun F0 H0 F H σ S o Q q => ?_⟩
  refine ka _ _ _ _ _ _ o _ (PostV.to (gE Q) q fun x v F1 H1 e1 w1 q1 => ?_)
  cases x with
  | lst ds =>
    obtain ⟨a, vs, rfl, h1, ra⟩ := w1.isLst e1.fh
    refine ⟨.inl ⟨rfl, vs, SqL.of h1⟩, ?_⟩
    refine kb _ _ _ _ _ _ (o.up e1) _ (PostV.to (gE Q) q1 fun y u F2 H2 e2 w2 q2 => ?_)
    cases y with
    | int k =>
      cases w2.isInt
      unfold idxD at q2
      simp only at q2
      cases hn : intsD ds with
      | none => rw [hn] at q2; exact q2.elim
      | some ns =>
        rw [hn] at q2
        simp only at q2
        cases hj : idxL k ns with
        | none => rw [hj] at q2; exact q2.elim
        | some j =>
          rw [hj] at q2
          have ev := ints_rp ra hn
          subst ev
          obtain ⟨z1, z2⟩ := idxL_spec hj
          refine ⟨a, _, .int k, j, .int k, rfl, rfl, SqL.of (e2.hh _ _ h1), rfl, flat_ints ns, by rw [List.getElem?_map, z1]; rfl, by simp [eqV], fun m z hm hz => ?_, Post.here q2 e2.fh (.int _)⟩
          rw [List.getElem?_map] at hz
          cases hz2 : ns[m]? with
          | none => rw [hz2] at hz; cases hz
          | some y =>
            rw [hz2] at hz
            cases hz
            have := z2 m y hm hz2
            simp [eqV, this]
    | _ => exact q2.elim
  | _ => exact q1.elim
/-- without a key -/
def dropD (es : List (Int × D)) (k : Int) : List (Int × D) := es.filter fun e => decide (e.1 ≠ k)
theorem dropK_rp {K : PySem.W.Frag} {F : Hp} {k : Int} : ∀ {kvs : List (Key × V)} {es : List (Int × D)}, RpK K F kvs es → RpK K F (dropK kvs (Sum.inl k)) (dropD es k)
  | _, [], h => by cases h; exact .nil
  | _, (j, d) :: es, h => by
    cases h with
    | cons h1 h2 =>
      have ih := dropK_rp (k := k) h2
      unfold dropK dropD at ih ⊢
      by_cases c : j = k
      · subst c
        rw [List.filter_cons_of_neg (by simp), List.filter_cons_of_neg (by simp)]
        exact ih
      · rw [List.filter_cons_of_pos (by simpa using fun z => c z), List.filter_cons_of_pos (by simpa using c)]
        exact .cons h1 ih
theorem dropD_no {es : List (Int × D)} {k : Int} (h : keyD es k = none) : dropD es k = es := by
  unfold dropD
  rw [List.filter_eq_self]
  intro a ha
  rw [decide_eq_true_eq]
  intro z
  unfold keyD at h
  rw [Option.map_eq_none_iff, List.find?_eq_none] at h
  exact absurd (decide_eq_true z) (h a ha)
def mPop (i : Nat) (mk : List Sl → R D) (S : List Sl) : SO := match S[i]? with
  | some (.od es) => toS (mk S) S fun k => match k with
    | .int k => .nx (S.set i (.od (dropD es k)))
    | _ => .bad
  | _ => .bad
theorem ds_pop {o ek : Expr} {i j : Nat} {apos cpos np : Pos} {mk : List Sl → R D} (ho : PE X o (tVar i)) (hk : DR C X W ek mk) (m : M2 X o "pop" apos ek (.Constant .none j np) cpos)
    (hsw : swapsWith (.Call (.Attribute o "pop" apos) [ek, .Constant .none j np] [] cpos) none pos.line X.env = pure false := by rfl) : DS C X W (.Expr (.Call (.Attribute o "pop" apos) [ek, .Constant .none j np] [] cpos) pos) (mPop i mk) := by
  obtain ⟨tk, pk, kk⟩ := hk.ex
  refine .of ⟨_, ps_expr (pe_dpop2 ho pk pe_non m) hsw, fun F0 H0 F H σ S ok E q => ?_⟩
  unfold mPop at q
  split at q
  · rename_i es hd
    obtain ⟨v, h1, a, vs, h2, h3, h4, h5⟩ := ok.at hd
    subst h2
    refine ⟨_, h1, a, rfl, .inl ⟨vs, .inl h4⟩, ?_⟩
    refine kk _ _ _ _ _ _ ok _ (PostV.ofS ok q fun y w F1 H1 e1 o1 w1 q1 => ?_)
    cases y with
    | int k =>
      cases w1.isInt
      have h6 : H1 a = some (.dK vs) := e1.hh _ _ h4
      have h7 : RpK X.K F1 vs es := h5.up e1.ff
      refine ⟨vs, .inl k, h6, rfl, fun v _ => ?_, fun hn => ?_⟩
      · exact q1 σ F1 _ (o1.write hd h1 (.inr (.inl ⟨_, rfl⟩)) rfl fun O hO _ => ⟨a, _, rfl, hO, upd_same, dropK_rp h7⟩)
      · have : keyD es k = none := by
          rcases valV_keyD k h7 with ⟨_, z⟩ | ⟨v, d, z1, _, _⟩
          · exact z
          · rw [hn] at z1; cases z1
        simp only [dropD_no this] at q1
        have e : S.set i (.od es) = S := by
          refine List.ext_getElem (by simp) fun j h1 h2 => ?_
          by_cases e : i = j
          · subst e
            rw [List.getElem_set_self]
            exact ((List.getElem?_eq_some_iff.mp hd).2).symm
          · rw [List.getElem_set_ne e]
        rw [e] at q1
        exact q1 σ F1 H1 o1
    | _ => exact q1.elim
  · exact q.elim
end
end DL
/-! The data layer, part X: raise, try, what a suite asks of its error. -/
namespace DL
open PySem L2
open PyProof.Rows (envOfC)

/-! ### raise of a class without __init__ -/
structure XCls (K : PySem.W.Frag) (mg : Str → Option Value) (x : Str) (c : Addr) : Prop where
  gP : mg x = some (.ref c)
  xP : PySem.W.excIn K c [.type "ValueError", .type "Exception", .type "BaseException", .type "object"] "ValueError.__new__" = true
  kP : PySem.W.keepIn K (.ref c) = true
  bP : PySem.W.subIn K (.ref c) (.type "BaseException") = some true
  tP : PySem.W.typeIn K (.ref c) = some (.type "type")
def mRaise (e : Exn) (S : List Sl) : SO := .ex e S
def noXn (S : List Sl) : Bool := S.all fun s => match s with
  | .xn _ => false
  | _ => true
section
variable {C : CL} {X : Cx} {W : WX} {pos pos2 p p2 : Pos} {x m : Str}
theorem ds_raise0 {j : Nat} {c : Addr} (e : Exn) (T : XCls X.K X.mg x c) (hc : X.calm = true) (tk : Takes X W) (hg : Gl X x) (he : ∀ H, ExcIs C H (.ref c) none e) (hdb : (x == ("__debug__" : Str)) = false := by decide) :
    DS C X W (.Raise (some (.Call (.Name x p) [.Constant (.str m) j p2] [] pos)) none pos2) (mRaise e) := by
  refine .of ⟨_, ps_raise hc tk (pmk_own PySem.F.excBase_ValueError T.xP T.gP T.kP (raises_own T.bP T.tP) hg hdb), fun F0 H0 F H σ S o E q => ?_⟩
  exact q σ F H o (.ref c) none F H (Ext.refl o.sub) (he H)

/-! ### try -/
theorem Ok.reC {C C' : CL} {K : PySem.W.Frag} {F0 H0 F H : Hp} {σ : St} {S : List Sl} (hc : C'.cl = C.cl) (hp : C'.par = C.par) (hx : noXn S = true) (o : Ok C K F0 H0 F H σ S) : Ok C' K F0 H0 F H σ S := by
  refine ⟨o.sub, o.f0, o.h0, o.old, o.len, ?_⟩
  obtain ⟨ow, w1, w2⟩ := o.ow
  refine ⟨ow, w1, fun i s v h1 h2 => ?_⟩
  have q := w2 i s v h1 h2
  cases s with
  | xn e =>
    have := List.all_eq_true.mp hx _ (List.mem_of_getElem? h1)
    cases this
  | hd j => exact q.trans (by rw [hp])
  | pl j ds => exact ⟨by rw [hp]; exact q.1, q.2⟩
  | pd j ds => exact ⟨by rw [hp]; exact q.1, q.2⟩
  | ob j c fs =>
    obtain ⟨q0, p, dx, vs, q1, q2, q3, q4⟩ := q
    exact ⟨fun k hk => by rw [hp]; exact q0 k hk, p, dx, vs, q1, q2, by rw [hc]; exact q3, q4⟩
  | un => exact q
  | fz d => exact q
  | ol d => exact q
  | od d => exact q
  | og b d => exact q
/-- the exception comes into its slot -/
theorem Ok.setX {C : CL} {K : PySem.W.Frag} {F0 H0 F H : Hp} {σ : St} {S : List Sl} {i : Nat} {e : Exn} (o : Ok C K F0 H0 F H σ S) (h : ExcIs C H C.excls C.exd e) : Ok C K F0 H0 F H (σ.set i (some (.ref C.exa))) (S.set i (.xn e)) := by
  refine ⟨o.sub, o.f0, o.h0, o.old, by simp [o.len], ?_⟩
  obtain ⟨ow, w1, w2⟩ := o.ow
  refine ⟨ow, w1, fun j t w h1 h2 => ?_⟩
  by_cases c : i = j
  · subst c
    have hi : i < S.length := by have := (List.getElem?_eq_some_iff.mp h1).1; simpa using this
    have hi' : i < σ.length := by rw [o.len]; exact hi
    rw [List.getElem?_set_self hi] at h1
    rw [List.getElem?_set_self hi'] at h2
    cases h1; cases h2; exact ⟨rfl, h⟩
  · rw [List.getElem?_set_ne c] at h1 h2
    exact w2 j t w h1 h2
abbrev CL.at (C : CL) (a : Addr) (cls : Value) (d : Option Addr) : CL := { C with exa := a, excls := cls, exd := d }
def mTry (i : Nat) (q : Exn → Bool) (mb ms : List Sl → SO) (S : List Sl) : SO := match mb S with
  | .ex e S' => if (q e && noXn S') = true then (match ms (S'.set i (.xn e)) with
    | .nx S2 => if noXn (S2.set i .un) = true then .nx (S2.set i .un) else .bad
    | .rt d => .rt d
    | _ => .bad) else .bad
  | r => r
theorem ds_tryAs {n : Str} {c : Value} {i : Nat} {body suite : List Stmt} {b₀ : Stmt} {np pos' : Pos} {mb ms : List Sl → SO} (q : Exn → Bool) (hs : X.stack = X.env :: X.outer) (hf : X.env.frame = some X.env.locals) (hN : X.N.Nodup) (hi : X.N[i]? = some n) (hln : X.env.kindOf n = some .local) (hc : Names X x c) (tk : Takes X W)
    (hq : ∀ e, q e = true → ∀ H cls d, ExcIs C H cls d e → PySem.W.exmOne X.K cls c = some true)
    (hb : ∀ (W' : WX) (pn : List (Addr × Obj)) (xe : Value → Shared → Prop), Takes (X.tr pn xe) W' → PassesOwn (model X.prog X.w) X.A X.env xe → DSs C (X.tr pn xe) W' body mb)
    (hsu : ∀ (a : Addr) (oe : Obj) (cls : Value) (d : Option Addr) (pn : List (Addr × Obj)), Zc cls d oe → (∃ vs, oe.data = .fields vs) → DSs (C.at a cls d) (X.suite a ((a, oe) :: pn)) W0 (b₀ :: suite) ms) :
    DS C X W (.Try body [.ExceptHandler (some (.Name x np)) (some n) (b₀ :: suite) pos'] [] [] pos) (mTry i q mb ms) := by
  refine .of ⟨_, ps_try_as (i := i) (tb := fun W' => cS C X.K W' mb) (ts := fun a cls d => cS (C.at a cls d) X.K W0 ms) hs hf hN hi hln hc tk (fun W' pn xe t h => (hb W' pn xe t h).run) (fun a oe cls d pn z f => (hsu a oe cls d pn z f).run), fun F0 H0 F H σ S o E r => ?_⟩
  refine ⟨F0, H0, F, S, o, ?_⟩
  unfold mTry at r
  cases hm : mb S with
  | ex e S' =>
    rw [hm] at r
    simp only at r
    by_cases c1 : (q e && noXn S') = true
    · rw [if_pos c1] at r
      rw [Bool.and_eq_true] at c1
      intro σ' F' H' o' cls d F2 H2 e2 x2
      refine ⟨true, hq e c1.1 H2 cls d x2, fun _ a ha => ?_, fun z => nomatch z⟩
      have ok' : Ok (C.at a cls d) X.K F0 H0 F2 H2 (σ'.set i (some (.ref a))) (S'.set i (.xn e)) := Ok.setX (C := C.at a cls d) (Ok.reC (C := C) (C' := C.at a cls d) rfl rfl c1.2 (o'.up e2)) x2
      refine ⟨F0, H0, F2, _, ok', ?_⟩
      cases h2 : ms (S'.set i (.xn e)) with
      | nx S2 =>
        rw [h2] at r
        simp only at r
        by_cases c2 : noXn (S2.set i .un) = true
        · rw [if_pos c2] at r
          intro σ3 F3 H3 o3
          exact r (σ3.set i none) F3 H3 (Ok.reC (C := C.at a cls d) (C' := C) rfl rfl c2 (o3.set (s := .un) (v := none) rfl trivial))
        · rw [if_neg c2] at r; exact r.elim
      | rt d2 => rw [h2] at r; exact r
      | bk S2 => rw [h2] at r; exact r.elim
      | ct S2 => rw [h2] at r; exact r.elim
      | ex e3 S2 => rw [h2] at r; exact r.elim
      | bad => rw [h2] at r; exact r.elim
      | rs d2 S2 => rw [h2] at r; exact r.elim
      | rl d2 => rw [h2] at r; exact r.elim
      | rd d2 => rw [h2] at r; exact r.elim
    · rw [if_neg c1] at r; exact r.elim
  | nx S2 => rw [hm] at r; exact r
  | rt d2 => rw [hm] at r; exact r
  | bk S2 => rw [hm] at r; exact r
  | ct S2 => rw [hm] at r; exact r
  | bad => rw [hm] at r; exact r
  | rs d2 S2 => rw [hm] at r; exact r
  | rl d2 => rw [hm] at r; exact r
  | rd d2 => rw [hm] at r; exact r
/-- without a name -/
def mTryO (q : Exn → Bool) (mb ms : List Sl → SO) (S : List Sl) : SO := match mb S with
  | .ex e S' => if (q e && noXn S') = true then (match ms S' with
    | .nx S2 => if noXn S2 = true then .nx S2 else .bad
    | .rt d => .rt d
    | _ => .bad) else .bad
  | r => r
theorem ds_tryO {c : Value} {body suite : List Stmt} {b₀ : Stmt} {np pos' : Pos} {mb ms : List Sl → SO} (q : Exn → Bool) (hs : X.stack = X.env :: X.outer) (hf : X.env.frame = some X.env.locals) (hc : Names X x c) (tk : Takes X W)
    (hq : ∀ e, q e = true → ∀ H cls d, ExcIs C H cls d e → PySem.W.exmOne X.K cls c = some true)
    (hb : ∀ (W' : WX) (pn : List (Addr × Obj)) (xe : Value → Shared → Prop), Takes (X.tr pn xe) W' → PassesOwn (model X.prog X.w) X.A X.env xe → DSs C (X.tr pn xe) W' body mb)
    (hsu : ∀ (a : Addr) (oe : Obj) (cls : Value) (d : Option Addr) (pn : List (Addr × Obj)), Zc cls d oe → (∃ vs, oe.data = .fields vs) → DSs (C.at a cls d) (X.suite a ((a, oe) :: pn)) W0 (b₀ :: suite) ms) :
    DS C X W (.Try body [.ExceptHandler (some (.Name x np)) none (b₀ :: suite) pos'] [] [] pos) (mTryO q mb ms) := by
  refine .of ⟨_, ps_try_only (tb := fun W' => cS C X.K W' mb) (ts := fun a cls d => cS (C.at a cls d) X.K W0 ms) hs hf hc tk (fun W' pn xe t h => (hb W' pn xe t h).run) (fun a oe cls d pn z f => (hsu a oe cls d pn z f).run), fun F0 H0 F H σ S o E r => ?_⟩
  refine ⟨F0, H0, F, S, o, ?_⟩
  unfold mTryO at r
  cases hm : mb S with
  | ex e S' =>
    rw [hm] at r
    simp only at r
    by_cases c1 : (q e && noXn S') = true
    · rw [if_pos c1] at r
      rw [Bool.and_eq_true] at c1
      intro σ' F' H' o' cls d F2 H2 e2 x2
      refine ⟨true, hq e c1.1 H2 cls d x2, fun _ a ha => ?_, fun z => nomatch z⟩
      refine ⟨F0, H0, F2, S', Ok.reC (C := C) (C' := C.at a cls d) rfl rfl c1.2 (o'.up e2), ?_⟩
      cases h2 : ms S' with
      | nx S2 =>
        rw [h2] at r
        simp only at r
        by_cases c2 : noXn S2 = true
        · rw [if_pos c2] at r
          intro σ3 F3 H3 o3
          exact r σ3 F3 H3 (Ok.reC (C := C.at a cls d) (C' := C) rfl rfl c2 o3)
        · rw [if_neg c2] at r; exact r.elim
      | rt d2 => rw [h2] at r; exact r
      | bk S2 => rw [h2] at r; exact r.elim
      | ct S2 => rw [h2] at r; exact r.elim
      | ex e3 S2 => rw [h2] at r; exact r.elim
      | bad => rw [h2] at r; exact r.elim
      | rs d2 S2 => rw [h2] at r; exact r.elim
      | rl d2 => rw [h2] at r; exact r.elim
      | rd d2 => rw [h2] at r; exact r.elim
    · rw [if_neg c1] at r; exact r.elim
  | nx S2 => rw [hm] at r; exact r
  | rt d2 => rw [hm] at r; exact r
  | bk S2 => rw [hm] at r; exact r
  | ct S2 => rw [hm] at r; exact r
  | bad => rw [hm] at r; exact r
  | rs d2 S2 => rw [hm] at r; exact r
  | rl d2 => rw [hm] at r; exact r
  | rd d2 => rw [hm] at r; exact r

/-! ### isinstance of the exception that the suite holds -/
/-- what the written part says of an exception's class -/
structure XIs (K : PySem.W.Frag) (D : Addr) : Prop where
  cl : (PySem.W.clsIn K D).isSome = true
  ga : PySem.W.findIn K (.ref D) "__getattribute__" = some (some (.builtin "BaseException.__getattribute__"))
  gt : PySem.W.findIn K (.ref D) "__getattr__" = some none
  sb : PySem.W.subIn K (.ref D) (.type "BaseException") = some true
  ca : PySem.W.findIn K (.ref D) "__class__" = some (some (.builtin "object.__class__"))
  cn : PySem.W.specialIn K (.builtin "object.__class__") "__get__" = some (some (.builtin "getset_descriptor.__get__"))
  ct : PySem.W.takesIn K (.builtin "object.__class__") = some true
  mo : PySem.W.mroIn K D (.type "object") = some true
def rIsX (K : PySem.W.Frag) (D a : Addr) (d : Option Addr) : List V → Hp → VK → Prop := fun xs H Q =>
  ∃ (c : V) (cv : Value) (b : Bool), xs = [.ref a, c] ∧ (∀ u, RelV c u → u = cv) ∧ PySem.W.kitOne K (.ref D) cv = some b ∧ (∀ dd, d = some dd → ∃ fs, H dd = some (.xd fs)) ∧ Q (.bl b) H
theorem call_isX {a D : Addr} {d : Option Addr} {oe : Obj} {pn : List (Addr × Obj)} (T : XIs X.K D) (hz : Zc (.ref D) d oe) (hf : ∃ vs, oe.data = .fields vs) : CallR (X.suite a ((a, oe) :: pn)) (.builtin "isinstance") (rIsX X.K D a d) := by
  rintro pins s σ H xs us Q I r ⟨c, cv, b, rfl, hcv, hk, hd, q⟩
  obtain ⟨v1, v2, rfl, rx, rt⟩ : ∃ v1 v2, us = [v1, v2] ∧ RelV (.ref a) v1 ∧ RelV c v2 := by
    cases r with
    | cons rx rr =>
      cases rr with
      | cons rt rr => cases rr; exact ⟨_, _, rfl, rx, rt⟩
  cases rx
  have hv2 := hcv _ rt
  subst hv2
  obtain ⟨at1, _⟩ := I.pin (a, oe) (List.mem_append_left _ List.mem_cons_self)
  obtain ⟨fv, hfv⟩ := hf
  obtain ⟨z1, z2⟩ := hz
  have no : PySem.W.notCls oe = true := by unfold PySem.W.notCls; rw [hfv] <;> rfl
  have inst : ∃ od, PySem.W.InstAt s.heap a oe D od := by
    cases d with
    | none => exact ⟨none, at1, z1, no, by rw [z2]; trivial⟩
    | some dd =>
      obtain ⟨fs, hx⟩ := hd dd rfl
      have ok : ObjOk X.prog X.w H s.heap dd (.xd fs) := I.hok dd _ hx
      obtain ⟨mA, hns, _⟩ := ok
      obtain ⟨od, ho, _⟩ := lookIn_ns hns
      exact ⟨some od, at1, z1, no, by rw [z2]; exact ho⟩
  obtain ⟨od, J⟩ := inst
  have kit := PySem.W.kitx_exc (K := X.K) (x := a) (ox := oe) (od := od) T.cl T.ga T.gt T.sb T.ca T.cn T.ct T.mo
  refine PySem.W.kia_one kit I.kIn J hk (by intro z; cases z) fun tk => ?_
  exact ⟨.bl b, H, I.tok tk, rfl, q⟩
def mIsX (i : Nat) (r : Exn → Option Bool) (S : List Sl) : R D := match S[i]? with
  | some (.xn e) => match r e with
    | some b => .ok (.bl b)
    | none => .bad
  | _ => .bad
def mFldX (i : Nat) (r : Exn → Option Int) (S : List Sl) : R D := match S[i]? with
  | some (.xn e) => match r e with
    | some k => .ok (.int k)
    | none => .bad
  | _ => .bad
theorem xcls_mk {K : PySem.W.Frag} {h : Heap} {mg : Str → Option Value} {x : Str} {c : Addr} (X : K.In h) (G : h.Ns mainGlobals mg) (a : PySem.W.nsIn K mainGlobals x = some (some (.ref c))) (q : PySem.W.excIn K c [.type "ValueError", .type "Exception", .type "BaseException", .type "object"] "ValueError.__new__" = true)
    (k : PySem.W.keepIn K (.ref c) = true) (b : PySem.W.subIn K (.ref c) (.type "BaseException") = some true) (t : PySem.W.typeIn K (.ref c) = some (.type "type")) : XCls K mg x c := ⟨PySem.W.mg_of X G a, q, k, b, t⟩
theorem xis_mk {K : PySem.W.Frag} {D : Addr} (cl : PySem.W.isClsIn K D = true) (ga : PySem.W.findIn K (.ref D) "__getattribute__" = some (some (.builtin "BaseException.__getattribute__"))) (gt : PySem.W.findIn K (.ref D) "__getattr__" = some none) (sb : PySem.W.subIn K (.ref D) (.type "BaseException") = some true)
    (ca : PySem.W.findIn K (.ref D) "__class__" = some (some (.builtin "object.__class__"))) (cn : PySem.W.specialIn K (.builtin "object.__class__") "__get__" = some (some (.builtin "getset_descriptor.__get__"))) (ct : PySem.W.takesIn K (.builtin "object.__class__") = some true) (mo : PySem.W.mroIn K D (.type "object") = some true) : XIs K D := ⟨cl, ga, gt, sb, ca, cn, ct, mo⟩
theorem Ok.xn {K : PySem.W.Frag} {F0 H0 F H : Hp} {σ : St} {S : List Sl} {i : Nat} {e : Exn} (o : Ok C K F0 H0 F H σ S) (h : S[i]? = some (.xn e)) : σ[i]? = some (some (.ref C.exa)) ∧ ExcIs C H C.excls C.exd e := by
  obtain ⟨v, hv, _⟩ := o.at h
  obtain ⟨ow, w1, w2⟩ := o.ow
  obtain ⟨z1, z2⟩ := w2 i _ v h hv
  subst z1
  exact ⟨hv, z2⟩
theorem ExcIs.dict {C : CL} {H : Hp} {cls : Value} {d : Option Addr} {e : Exn} (h : ExcIs C H cls d e) : ∀ dd, d = some dd → ∃ fs, H dd = some (.xd fs) := by
  cases e with
  | noFormula x => obtain ⟨_, dd, h1, h2⟩ := h; exact fun d2 e => by rw [h1] at e; cases e; exact ⟨_, h2⟩
  | notRight x => obtain ⟨_, dd, h1, h2⟩ := h; exact fun d2 e => by rw [h1] at e; cases e; exact ⟨_, h2⟩
  | noStep => exact fun d2 e => by rw [h.2] at e; cases e
  | noRef => exact fun d2 e => by rw [h.2] at e; cases e
  | tooMany => exact fun d2 e => by rw [h.2] at e; cases e
end
section
variable {C : CL} {X : Cx} {W : WX} {pos p : Pos} {a : Addr} {oe : Obj} {cls : Value} {d : Option Addr} {pn : List (Addr × Obj)} {e : Expr} {i : Nat}
/-- isinstance(e, T), e the suite's error -/
theorem de_isX {tc : Expr} {c : V} {cv : Value} (r : Exn → Option Bool) (hz : Zc cls d oe) (hf : ∃ vs, oe.data = .fields vs) (he : PE (X.suite a ((a, oe) :: pn)) e (tVar i)) (ht : PE (X.suite a ((a, oe) :: pn)) tc (tC c)) (hcv : ∀ u, RelV c u → u = cv)
    (hr : ∀ (x : Exn) (b : Bool), r x = some b → ∀ H, ExcIs C H cls d x → ∃ D, cls = .ref D ∧ XIs X.K D ∧ PySem.W.kitOne X.K (.ref D) cv = some b)
    (hg : Gl X "isinstance") (hm : X.mg "isinstance" = none) (h1 : starEach (e :: [tc]) X.env = (false, eval e X.env) :: starEach [tc] X.env := by rfl) (h2 : starEach (tc :: []) X.env = (false, eval tc X.env) :: starEach [] X.env := by rfl) (hpl : (backTo pos (starEach [tc] X.env)).any (·.1) = false := by rfl) :
    DE (C.at a cls d) (X.suite a ((a, oe) :: pn)) W (.Call (.Name "isinstance" p) [e, tc] [] pos) (mIsX i r) := by
  refine ⟨⟨fun pins s σ H Q I ⟨F0, H0, F, S, o, q⟩ => ?_⟩⟩
  unfold mIsX at q
  split at q
  · rename_i x hx
    split at q
    · rename_i b hb
      obtain ⟨z1, z2⟩ := o.xn hx
      obtain ⟨D, hD, T, hk⟩ := hr x b hb H z2
      subst hD
      refine (pe_callB (call_isX T hz hf) hg hm PyProof.Rows.boot_isinstance (pa_cons he (pa_cons ht pa_nil h2) h1) (by decide) (by decide) h1 hpl).run pins s σ H Q I ?_
      exact ⟨_, z1, c, cv, b, rfl, hcv, hk, ExcIs.dict z2, Post.here q o.sub (.bl _)⟩
    · exact q.elim
  · exact q.elim
end
end DL
/-! The data layer, part Y: defs that change what a param holds. -/
namespace DL
open PySem L2
open PyProof.Rows (envOfC)

/-- a result, and the slots behind it -/
inductive RS where
  | ok (d : D) (S : List Sl) | exc (e : Exn) (S : List Sl) | bad
def PostM (C : CL) (K : PySem.W.Frag) (W : WX) (F0 H0 : Hp) (σ : St) (r : RS) (Q : VK) : Prop := match r with
  | .ok d S => ∀ v F H, Ok C K F0 H0 F H σ S → Rp K F v d → Q v H
  | .exc e S => ∀ F H, Ok C K F0 H0 F H σ S → Wish C W σ F H e
  | .bad => False
def cEM (C : CL) (K : PySem.W.Frag) (W : WX) (m : List Sl → RS) : TE := fun σ H Q => ∃ F0 H0 F S, Ok C K F0 H0 F H σ S ∧ PostM C K W F0 H0 σ (m S) Q
structure DEM (C : CL) (X : Cx) (W : WX) (e : Expr) (m : List Sl → RS) : Prop where
  run : PE X e (cEM C X.K W m)
def mSetM (i : Nat) (m : List Sl → RS) (S : List Sl) : SO := match m S with
  | .ok d S' => .nx (S'.set i (.fz d))
  | .exc e S' => .ex e S'
  | .bad => .bad
def mDropM (m : List Sl → RS) (S : List Sl) : SO := match m S with
  | .ok _ S' => .nx S'
  | .exc e S' => .ex e S'
  | .bad => .bad
/-- return: the params go along -/
def mRetS (m : List Sl → R D) (S : List Sl) : SO := toS (m S) S fun d => .rs d S
def mRetM (m : List Sl → RS) (S : List Sl) : SO := match m S with
  | .ok d S' => .rs d S'
  | .exc e S' => .ex e S'
  | .bad => .bad
/-- return: the params are as they were -/
def mRetP (m : List Sl → RS) (S : List Sl) : SO := match m S with
  | .ok d _ => .rt d
  | .exc e S' => .ex e S'
  | .bad => .bad
section
variable {C : CL} {X : Cx} {W : WX} {e e2 : Expr} {pos pos' p : Pos} {x : Str}
theorem DEM.of {m : List Sl → RS} (h : ∃ t, PE X e t ∧ ∀ F0 H0 F H σ S, Ok C X.K F0 H0 F H σ S → ∀ Q, PostM C X.K W F0 H0 σ (m S) Q → t σ H Q) : DEM C X W e m := by
  obtain ⟨t, p, k⟩ := h
  exact ⟨⟨fun pins s σ H Q I ⟨F0, H0, F, S, o, q⟩ => p.run pins s σ H Q I (k F0 H0 F H σ S o Q q)⟩⟩
theorem ds_setM {i : Nat} {m : List Sl → RS} (hN : X.N.Nodup) (hi : X.N[i]? = some x) (hx : Loc X.env.scope x) (he : DEM C X W e m) (hs : swapsWith e (some (.Name x pos')) pos.line X.env = pure false := by rfl)
    (hf : X.fn x = true ∨ X.env.scope.names.lookup x = some .local := by first | exact .inl rfl | exact .inr rfl | assumption) : DS C X W (.Assign [.Name x pos'] e pos) (mSetM i m) := by
  refine .of ⟨_, ps_set hN hi hx he.run hs hf, fun F0 H0 F H σ S o E q => ?_⟩
  refine ⟨F0, H0, F, S, o, ?_⟩
  unfold mSetM at q
  cases h : m S with
  | ok d S' =>
    rw [h] at q
    exact fun v F1 H1 o1 r1 => q _ F1 H1 (o1.set (s := .fz d) rfl ⟨v, rfl, r1⟩)
  | exc y S' => rw [h] at q; exact fun F1 H1 o1 => q σ F1 H1 o1
  | bad => rw [h] at q; exact q
theorem ds_dropM {m : List Sl → RS} (he : DEM C X W e m) (hs : swapsWith e none pos.line X.env = pure false := by rfl) : DS C X W (.Expr e pos) (mDropM m) := by
  refine .of ⟨_, ps_expr he.run hs, fun F0 H0 F H σ S o E q => ⟨F0, H0, F, S, o, ?_⟩⟩
  unfold mDropM at q
  cases h : m S with
  | ok d S' => rw [h] at q; exact fun v F1 H1 o1 _ => q σ F1 H1 o1
  | exc y S' => rw [h] at q; exact fun F1 H1 o1 => q σ F1 H1 o1
  | bad => rw [h] at q; exact q
theorem ds_retS {m : List Sl → R D} (he : DE C X W e m) : DS C X W (.Return (some e) pos) (mRetS m) := by
  obtain ⟨t, p, k⟩ := he.ex
  refine .of ⟨_, ps_ret p, fun F0 H0 F H σ S o E q => k _ _ _ _ _ _ o _ (Post.ofS o q fun d v F1 H1 e1 o1 r1 q1 => ?_)⟩
  exact q1 σ v F1 H1 o1 r1
theorem ds_retM {m : List Sl → RS} (he : DEM C X W e m) : DS C X W (.Return (some e) pos) (mRetM m) := by
  refine .of ⟨_, ps_ret he.run, fun F0 H0 F H σ S o E q => ⟨F0, H0, F, S, o, ?_⟩⟩
  unfold mRetM at q
  cases h : m S with
  | ok d S' => rw [h] at q; exact fun v F1 H1 o1 r1 => q σ v F1 H1 o1 r1
  | exc y S' => rw [h] at q; exact fun F1 H1 o1 => q σ F1 H1 o1
  | bad => rw [h] at q; exact q
theorem ds_retP {m : List Sl → RS} (he : DEM C X W e m) : DS C X W (.Return (some e) pos) (mRetP m) := by
  refine .of ⟨_, ps_ret he.run, fun F0 H0 F H σ S o E q => ⟨F0, H0, F, S, o, ?_⟩⟩
  unfold mRetP at q
  cases h : m S with
  | ok d S' => rw [h] at q; exact fun v F1 H1 o1 r1 => q v F1 H1 o1.ext r1
  | exc y S' => rw [h] at q; exact fun F1 H1 o1 => q σ F1 H1 o1
  | bad => rw [h] at q; exact q
/-- e == e2, e with a change -/
def mCmpM (g : D → D → R D) (m : List Sl → RS) (m2 : List Sl → R D) (S : List Sl) : RS := match m S with
  | .ok x S' => match m2 S' with
    | .ok y => match g x y with
      | .ok z => .ok z S'
      | _ => .bad
    | _ => .bad
  | .exc y S' => .exc y S'
  | .bad => .bad
theorem dem_cmp {op : CmpOp} {g : D → D → R D} {m : List Sl → RS} {mb : List Sl → R D} (og : OpD X (compareOp op) g) (he : DEM C X W e m) (hb : DR C X W e2 mb) (h1 : behindInMarks op e2 = false) : DEM C X W (.Compare e [op] [e2] pos) (mCmpM g m mb) := by
  obtain ⟨r, hr, k⟩ := og
  obtain ⟨tb, pb, kb⟩ := hb.ex
  refine .of ⟨_, pe_cmp (pc_op hr he.run pb) h1, fun F0 H0 F H σ S o Q q => ⟨F0, H0, F, S, o, ?_⟩⟩
  unfold mCmpM at q
  cases h : m S with
  | ok x S' =>
    rw [h] at q
    intro v F1 H1 o1 r1
    simp only at q
    refine kb _ _ _ _ _ _ o1 _ ?_
    cases h2 : mb S' with
    | ok y =>
      rw [h2] at q
      intro w F2 H2 e2 w2
      refine k F2 H2 x y v w Q e2.fh (.of (r1.up e2.ff)) w2 ?_
      simp only at q
      cases h3 : g x y with
      | ok z => rw [h3] at q; exact fun u F3 H3 e3 r3 => q u F3 H3 ((o1.up e2).up e3) r3
      | exc z => trivial
      | bad => rw [h3] at q; exact q
    | exc y => rw [h2] at q; exact q.elim
    | bad => rw [h2] at q; exact q.elim
  | exc y S' => rw [h] at q; exact fun F1 H1 o1 => q F1 H1 o1
  | bad => rw [h] at q; exact q
end

/-! ### arguments, one of which is a thing of one's own -/
def PostAW (C : CL) (K : PySem.W.Frag) (W : WX) (σ : St) (F H : Hp) (i : Nat) (r : R (List D × List D)) (Q : List V → Hp → Prop) : Prop := match r with
  | .ok x => ∀ ws1 u ws2 F' H', Ext F H F' H' → σ[i]? = some (some u) → RpA K F' ws1 x.1 → RpA K F' ws2 x.2 → Q (ws1 ++ u :: ws2) H'
  | .exc e => Wish C W σ F H e
  | .bad => False
structure DAW (C : CL) (X : Cx) (W : WX) (i : Nat) (es : List Expr) (m : List Sl → R (List D × List D)) : Prop where
  ex : ∃ t, PA X es t ∧ ∀ F0 H0 F H σ S, Ok C X.K F0 H0 F H σ S → ∀ Q, PostAW C X.K W σ F H i (m S) Q → t σ H Q
theorem gAW {C : CL} {K : PySem.W.Frag} {W : WX} {σ : St} {i : Nat} (Q : List V → Hp → Prop) : GO C K W σ (fun F H r => PostAW C K W σ F H i r Q) := by
  refine ⟨fun F H F1 H1 x e h => ?_, fun _ _ _ h => h, fun _ _ h => h⟩
  cases x with
  | ok x => exact fun ws1 u ws2 F' H' y => h ws1 u ws2 F' H' (e.trans y)
  | exc x => exact Wish.up h e
  | bad => exact h
section
variable {C : CL} {X : Cx} {W : WX} {e : Expr} {es : List Expr} {i : Nat}
def ownAt (i : Nat) (S : List Sl) : Bool := match S[i]? with
  | some s => s.own
  | none => false
theorem Ok.ownVal {K : PySem.W.Frag} {F0 H0 F H : Hp} {σ : St} {S : List Sl} (o : Ok C K F0 H0 F H σ S) (h : ownAt i S = true) : ∃ s p, S[i]? = some s ∧ s.own = true ∧ σ[i]? = some (some (.ref p)) := by
  unfold ownAt at h
  split at h
  · rename_i s hs
    obtain ⟨v, hv, _⟩ := o.at hs
    obtain ⟨ow, w1, w2⟩ := o.ow
    have q := w2 i s v hs hv
    refine ⟨s, ?_⟩
    cases s with
    | ol ds => obtain ⟨p, vs, h1, _⟩ := q; subst h1; exact ⟨p, hs, h, hv⟩
    | od ds => obtain ⟨p, vs, h1, _⟩ := q; subst h1; exact ⟨p, hs, h, hv⟩
    | pl j ds => obtain ⟨_, p, vs, h1, _⟩ := q; subst h1; exact ⟨p, hs, h, hv⟩
    | pd j ds => obtain ⟨_, p, vs, h1, _⟩ := q; subst h1; exact ⟨p, hs, h, hv⟩
    | og j ds => obtain ⟨p, vs, h1, _⟩ := q; subst h1; exact ⟨p, hs, h, hv⟩
    | ob j c ds => obtain ⟨_, p, dx, vs, h1, _⟩ := q; subst h1; exact ⟨p, hs, h, hv⟩
    | _ => cases h
  · cases h
def aHere (i : Nat) (m : List Sl → R (List D)) (S : List Sl) : R (List D × List D) := if ownAt i S = true then (m S).bind fun ds => .ok ([], ds) else .bad
def aConsW (ma : List Sl → R D) (m : List Sl → R (List D × List D)) (S : List Sl) : R (List D × List D) := (ma S).bind fun d => (m S).bind fun x => .ok (d :: x.1, x.2)
theorem daw_here {m : List Sl → R (List D)} (he : PE X e (tVar i)) (hr : DAR C X W es m) (hs : starEach (e :: es) X.env = (false, eval e X.env) :: starEach es X.env := by rfl) : DAW C X W i (e :: es) (aHere i m) := by
  obtain ⟨tb, pb, kb⟩ := hr.ex
  refine ⟨_, pa_cons he pb hs, fun F0 H0 F H σ S o Q q => ?_⟩
  unfold aHere at q
  by_cases c : ownAt i S = true
  · rw [if_pos c] at q
    obtain ⟨s, p, _, _, h3⟩ := o.ownVal c
    refine ⟨_, h3, ?_⟩
    refine kb _ _ _ _ _ _ o _ (PostAR.to (gAW Q) q fun xs vs F1 H1 e1 r1 q1 => ?_)
    exact q1 [] _ vs F1 H1 (Ext.refl e1.fh) h3 .nil r1
  · rw [if_neg c] at q; exact q.elim
theorem daw_cons {ma : List Sl → R D} {m : List Sl → R (List D × List D)} (ha : DE C X W e ma) (hr : DAW C X W i es m) (hs : starEach (e :: es) X.env = (false, eval e X.env) :: starEach es X.env := by rfl) : DAW C X W i (e :: es) (aConsW ma m) := by
  obtain ⟨ta, pa, ka⟩ := ha.ex
  obtain ⟨tb, pb, kb⟩ := hr.ex
  refine ⟨_, pa_cons pa pb hs, fun F0 H0 F H σ S o Q q => ?_⟩
  refine ka _ _ _ _ _ _ o _ (Post.to (gAW Q) q fun d v F1 H1 e1 r1 q1 => ?_)
  refine kb _ _ _ _ _ _ (o.up e1) _ ?_
  cases h : m S with
  | ok x =>
    rw [h] at q1
    intro ws1 u ws2 F2 H2 e2 hu r2 r3
    exact q1 (v :: ws1) u ws2 F2 H2 e2 hu (.cons (r1.up e2.ff) r2) r3
  | exc y => rw [h] at q1; exact q1
  | bad => rw [h] at q1; exact q1
end

/-! ### lent and given back -/
abbrev CL.pa (C : CL) (vs : List V) : CL := { C with par := fun j => vs[j]? }
def lend1 (k : Nat) : Sl → Option Sl
  | .od es => some (.pd k es)
  | .pd _ es => some (.pd k es)
  | .ol ds => some (.pl k ds)
  | .pl _ ds => some (.pl k ds)
  | .ob _ c fs => some (.ob (some k) c fs)
  | _ => none
def back1 : Sl → Sl → Option Sl
  | .od _, .pd _ es => some (.od es)
  | .pd j _, .pd _ es => some (.pd j es)
  | .ol _, .pl _ ds => some (.ol ds)
  | .pl j _, .pl _ ds => some (.pl j ds)
  | .ob j _ _, .ob _ c fs => some (.ob j c fs)
  | _, _ => none
theorem at_mid {α : Type} (a : List α) (x : α) (b : List α) : (a ++ x :: b)[a.length]? = some x := by simp
theorem ok_lend {C : CL} {K : PySem.W.Frag} {F0 H0 F H : Hp} {σ : St} {S : List Sl} {i : Nat} {s t : Sl} {u : V} {ws1 ws2 : List V} {ds1 ds2 : List D} (o : Ok C K F0 H0 F H σ S) (hs : S[i]? = some s) (hu : σ[i]? = some (some u)) (ht : lend1 ds1.length s = some t) (r1 : RpA K F ws1 ds1) (r2 : RpA K F ws2 ds2) :
    ∃ Hc, Ok (C.pa (ws1 ++ u :: ws2)) K F Hc F H ((ws1 ++ u :: ws2).map some) (ds1.map Sl.fz ++ t :: ds2.map Sl.fz) ∧
      ∀ F' H' Sc t' s', Ok (C.pa (ws1 ++ u :: ws2)) K F Hc F' H' ((ws1 ++ u :: ws2).map some) Sc → Sc[ds1.length]? = some t' → back1 s t' = some s' → Ok C K F0 H0 F' H' σ (S.set i s') := by
  obtain ⟨ow, w1, w2⟩ := o.ow
  have hsl := w2 i s _ hs hu
  have hl1 := r1.len
  have hmid : (ws1 ++ u :: ws2)[ds1.length]? = some u := by rw [← hl1]; exact at_mid _ _ _
  refine ⟨fun a => match ow a with | some (j, _) => if j = i then none else H a | none => H a, ⟨o.sub, Same.refl _, fun a w h => ?_, fun _ _ _ _ => rfl, by simp [hl1, r2.len], ?_⟩, ?_⟩
  · have h : (match ow a with | some (j, _) => if j = i then none else H a | none => H a) = some w := h
    split at h
    · split at h
      · cases h
      · exact h
    · exact h
  · refine ⟨fun a => match ow a with | some (j, n) => if j = i then some (ds1.length, n) else none | none => none, fun a x h => ?_, fun k r v h1 h2 => ?_⟩
    · have h : (match ow a with | some (j, n) => if j = i then some (ds1.length, n) else none | none => none) = some x := h
      split at h
      · rename_i j n hj
        split at h
        · rename_i e
          exact ⟨by simp only [hj, if_pos e], (w1 a _ hj).2⟩
        · cases h
      · cases h
    · by_cases c : k = ds1.length
      · subst c
        rw [show ds1.length = (ds1.map Sl.fz).length by simp, at_mid] at h1
        rw [List.getElem?_map, hmid] at h2
        cases h1; cases h2
        have fr : SlR (C.pa (ws1 ++ u :: ws2)) K F H (fun a n => (match ow a with | some (j, n) => if j = i then some (ds1.length, n) else none | none => none) = some (ds1.length, n)) (some u) t := by
          have own : ∀ a n, ow a = some (i, n) → (match ow a with | some (j, n) => if j = i then some (ds1.length, n) else none | none => none) = some (ds1.length, n) := fun a n h => by simp only [h, if_true]
          cases s with
          | od es => cases ht; obtain ⟨p, vs, z1, z2, z3, z4⟩ := hsl; exact ⟨hmid.symm, p, vs, z1, own _ _ z2, z3, z4⟩
          | ol es => cases ht; obtain ⟨p, vs, z1, z2, z3, z4⟩ := hsl; exact ⟨hmid.symm, p, vs, z1, own _ _ z2, z3, z4⟩
          | pd j es => cases ht; obtain ⟨_, p, vs, z1, z2, z3, z4⟩ := hsl; exact ⟨hmid.symm, p, vs, z1, own _ _ z2, z3, z4⟩
          | pl j es => cases ht; obtain ⟨_, p, vs, z1, z2, z3, z4⟩ := hsl; exact ⟨hmid.symm, p, vs, z1, own _ _ z2, z3, z4⟩
          | ob j c fs => cases ht; obtain ⟨_, p, dx, vs, z1, z2, z3, z4⟩ := hsl; exact ⟨fun k e => by cases e; exact hmid.symm, p, dx, vs, z1, own _ _ z2, z3, z4.frame (Same.upR (Same.refl _)) (fun _ _ _ => rfl) own⟩
          | _ => cases ht
        exact fr
      · have hfz : ∃ d, r = .fz d ∧ ∃ w, v = some w ∧ Rp K F w d := by
          rcases Nat.lt_or_ge k ds1.length with hk | hk
          · rw [List.getElem?_append_left (by simpa using hk), List.getElem?_map] at h1
            rw [List.getElem?_map, List.getElem?_append_left (by omega)] at h2
            rw [List.getElem?_eq_getElem hk] at h1
            cases h1
            obtain ⟨w, hw, rw'⟩ := r1.getD (List.getElem?_eq_getElem hk)
            rw [hw] at h2
            cases h2
            exact ⟨_, rfl, w, rfl, rw'⟩
          · obtain ⟨m, rfl⟩ : ∃ m, k = ds1.length + (m + 1) := ⟨k - ds1.length - 1, by omega⟩
            rw [List.getElem?_append_right (by simp)] at h1
            rw [List.getElem?_map, List.getElem?_append_right (by omega)] at h2
            rw [show ds1.length + (m + 1) - (ds1.map Sl.fz).length = m + 1 by simp, List.getElem?_cons_succ, List.getElem?_map] at h1
            rw [show ds1.length + (m + 1) - ws1.length = m + 1 by omega, List.getElem?_cons_succ] at h2
            cases hd : ds2[m]? with
            | none => rw [hd] at h1; cases h1
            | some d =>
              rw [hd] at h1
              cases h1
              obtain ⟨w, hw, rw'⟩ := r2.getD hd
              rw [hw] at h2
              cases h2
              exact ⟨_, rfl, w, rfl, rw'⟩
        obtain ⟨d, rfl, w, rfl, hr⟩ := hfz
        exact ⟨w, rfl, hr⟩
  · intro F' H' Sc t' s' o' ht' hb
    have keepOld : ∀ a w, H a = some w → (∀ n, ow a ≠ some (i, n)) → (match ow a with | some (j, _) => if j = i then none else H a | none => H a) = some w := fun a w h hn => by
      split
      · rename_i j n hj
        rw [if_neg (fun e => hn n (by rw [hj, e]))]; exact h
      · exact h
    have notOwn : ∀ a w, H0 a = some w → ∀ x, ow a ≠ some x := fun a w h x hx => by rw [(w1 a x hx).1] at h; cases h
    obtain ⟨oc, c1, c2⟩ := o'.ow
    have ocNot : ∀ a j n, ow a = some (j, n) → j ≠ i → oc a = none := fun a j n h hj => by
      cases z : oc a with
      | none => rfl
      | some x =>
        exfalso
        have z1 : (match ow a with | some (j, _) => if j = i then none else H a | none => H a) = none := (c1 a x z).1
        obtain ⟨_, _, w, hw, _⟩ := w1 a _ h
        rw [keepOld a w hw (fun n2 e => by rw [h] at e; cases e; exact hj rfl)] at z1
        cases z1
    refine ⟨o'.sub, o.f0.trans o'.f0, fun a w h => ?_, fun a w h n => ?_, by simp [o.len], ?_⟩
    · exact o'.h0 a w (keepOld a w (o.h0 a w h) (fun n => notOwn a w h _))
    · exact (o'.old a w (keepOld a w (o.h0 a w h) (fun n => notOwn a w h _)) n).trans (o.old a w h n)
    · refine ⟨fun a => match oc a with | some (k, n) => if k = ds1.length then some (i, n) else none | none => match ow a with | some (j, n) => if j = i then none else some (j, n) | none => none, fun a x h => ?_, fun j r v h1 h2 => ?_⟩
      · have h : (match oc a with | some (k, n) => if k = ds1.length then some (i, n) else none | none => match ow a with | some (j, n) => if j = i then none else some (j, n) | none => none) = some x := h
        split at h
        · rename_i k n hk
          obtain ⟨y1, y2, y3⟩ := c1 a _ hk
          refine ⟨?_, y2, y3⟩
          have y1 : (match ow a with | some (j, _) => if j = i then none else H a | none => H a) = none := y1
          split at y1
          · rename_i j n2 hj
            exact (w1 a _ hj).1
          · exact o.h0.free y1
        · split at h
          · rename_i j n hj
            split at h
            · cases h
            · rename_i ne
              obtain ⟨y1, y2, w, y3, y4⟩ := w1 a _ hj
              have hk := keepOld a w y3 (fun n2 e => by rw [hj] at e; cases e; exact ne rfl)
              exact ⟨y1, (o'.old a w hk (own_tup y4)).trans y2, w, o'.h0 a w hk, y4⟩
          · cases h
      · by_cases c : i = j
        · subst c
          rw [List.getElem?_set_self (List.getElem?_eq_some_iff.mp hs).1] at h1
          cases h1
          rw [hu] at h2
          cases h2
          have hq := c2 ds1.length t' (some u) ht' (by rw [List.getElem?_map, hmid]; rfl)
          have own : ∀ a n, oc a = some (ds1.length, n) → (match oc a with | some (k, n) => if k = ds1.length then some (i, n) else none | none => match ow a with | some (j, n) => if j = i then none else some (j, n) | none => none) = some (i, n) := fun a n h => by simp only [h, if_true]
          cases s with
          | od es => cases t' with
            | pd j2 es2 => cases hb; obtain ⟨_, p, vs, z1, z2, z3, z4⟩ := hq; exact ⟨p, vs, z1, own _ _ z2, z3, z4⟩
            | _ => cases hb
          | ol es => cases t' with
            | pl j2 es2 => cases hb; obtain ⟨_, p, vs, z1, z2, z3, z4⟩ := hq; exact ⟨p, vs, z1, own _ _ z2, z3, z4⟩
            | _ => cases hb
          | pd j1 es => cases t' with
            | pd j2 es2 => cases hb; obtain ⟨_, p, vs, z1, z2, z3, z4⟩ := hq; exact ⟨hsl.1, p, vs, z1, own _ _ z2, z3, z4⟩
            | _ => cases hb
          | pl j1 es => cases t' with
            | pl j2 es2 => cases hb; obtain ⟨_, p, vs, z1, z2, z3, z4⟩ := hq; exact ⟨hsl.1, p, vs, z1, own _ _ z2, z3, z4⟩
            | _ => cases hb
          | ob j1 c fs => cases t' with
            | ob j2 c2 fs2 => cases hb; obtain ⟨_, p, dx, vs, z1, z2, z3, z4⟩ := hq; exact ⟨hsl.1, p, dx, vs, z1, own _ _ z2, z3, z4.frame (Same.upR (Same.refl _)) (fun _ _ _ => rfl) own⟩
            | _ => cases hb
          | _ => cases hb
        · rw [List.getElem?_set_ne c] at h1
          refine (w2 j r v h1 h2).frame (Same.upR o'.f0) (fun a n h => ?_) (fun a w h n => ?_) fun a n h => ?_
          · obtain ⟨_, _, w, hw, _⟩ := w1 a _ h
            rw [hw]
            exact o'.h0 a w (keepOld a w hw (fun n2 e => by rw [h] at e; cases e; exact c rfl))
          · refine o'.h0 a w (keepOld a w h fun n2 e => ?_)
            obtain ⟨_, _, w2, hw2, hw3⟩ := w1 a _ e
            rw [h] at hw2; cases hw2; rw [n] at hw3; cases hw3
          · simp only [ocNot a j n h (fun e => c e.symm), h, if_neg (fun e : j = i => c e.symm)]

/-! ### the contract -/
def spM (C : CL) (K : PySem.W.Frag) (n : Nat) (f : List Sl → RS) : Sp := fun vs H Q E => vs.length = n ∧ ∃ (F H0 : Hp) (S : List Sl), Ok (C.pa vs) K F H0 F H (vs.map some) S ∧ (match f S with
  | .ok d S' => ∀ v F' H', Ok (C.pa vs) K F H0 F' H' (vs.map some) S' → Rp K F' v d → Q v H'
  | .exc e S' => ∀ F' H', Ok (C.pa vs) K F H0 F' H' (vs.map some) S' → ∀ cls d, ExcIs C H' cls d e → E cls d H'
  | .bad => False)
structure DefM (P : Program) (w : World) (K : PySem.W.Frag) (mg : Str → Option Value) (base : Heap) (C : CL) (k : Nat) (x : Str) (ps : List Str) (f : List Sl → RS) : Prop where
  ex : ∃ (a : Addr) (fd : FuncData), FnOk P w K mg base (L2.CX P w) k a fd ps (spM C K ps.length f) ∧ mg x = some (.ref a) ∧ PySem.W.keepIn K (.ref a) = true ∧ Binds K fd ps []
def keep1 (k : Nat) (s : Sl) : Sl := match s with
  | .pl j ds => if j = k then .pl j ds else .un
  | .pd j ds => if j = k then .pd j ds else .un
  | .ob (some j) c fs => if j = k then .ob (some j) c fs else .un
  | _ => .un
def keepS (np : Nat) (S : List Sl) : List Sl := (List.range np).map fun k => match S[k]? with
  | some s => keep1 k s
  | none => .un
def runM (n np : Nat) (m : List Sl → SO) (S : List Sl) : RS := match m (S ++ List.replicate (n - np) Sl.un) with
  | .rs d S' => if np ≤ S'.length then .ok d (keepS np S') else .bad
  | .nx S' => if np ≤ S'.length then .ok .non (keepS np S') else .bad
  | .ex e S' => if np ≤ S'.length then .exc e (keepS np S') else .bad
  | _ => .bad
section
variable {C : CL} {K : PySem.W.Frag} {F0 H0 F H : Hp}
theorem ok_app {σ : St} {S : List Sl} {m : Nat} (o : Ok C K F0 H0 F H σ S) : Ok C K F0 H0 F H (σ ++ List.replicate m none) (S ++ List.replicate m Sl.un) := by
  refine ⟨o.sub, o.f0, o.h0, o.old, by simp [o.len], ?_⟩
  obtain ⟨ow, w1, w2⟩ := o.ow
  refine ⟨ow, w1, fun i s v h1 h2 => ?_⟩
  have hl := o.len
  by_cases c : i < S.length
  · rw [List.getElem?_append_left c] at h1
    rw [List.getElem?_append_left (by omega)] at h2
    exact w2 i s v h1 h2
  · rw [List.getElem?_append_right (by omega)] at h1
    obtain ⟨z1, z2⟩ := List.getElem?_eq_some_iff.mp h1
    rw [List.getElem_replicate] at z2
    subst z2
    trivial
theorem ok_keep {σ : St} {S : List Sl} {vs : List V} {n : Nat} (hn : vs.length = n) (hσ : n ≤ σ.length) (o : Ok (C.pa vs) K F0 H0 F H σ S) : Ok (C.pa vs) K F0 H0 F H (vs.map some) (keepS n S) := by
  refine ⟨o.sub, o.f0, o.h0, o.old, by simp [keepS, hn], ?_⟩
  obtain ⟨ow, w1, w2⟩ := o.ow
  refine ⟨ow, w1, fun i s v h1 h2 => ?_⟩
  unfold keepS at h1
  rw [List.getElem?_map] at h1
  rw [List.getElem?_map] at h2
  cases hr : (List.range n)[i]? with
  | none => rw [hr] at h1; cases h1
  | some k =>
    rw [hr] at h1
    cases h1
    obtain ⟨z1, z2⟩ := List.getElem?_eq_some_iff.mp hr
    rw [List.length_range] at z1
    rw [List.getElem_range] at z2
    subst z2
    have hSi : i < S.length := by rw [← o.len]; omega
    show SlR (C.pa vs) K F H (fun a n => ow a = some (i, n)) v (match S[i]? with | some s => keep1 i s | none => .un)
    rw [List.getElem?_eq_getElem hSi]
    simp only
    have q := w2 i S[i] σ[i] (List.getElem?_eq_getElem hSi) (List.getElem?_eq_getElem (by omega))
    have hvi : vs[i]? = some vs[i] := List.getElem?_eq_getElem (by omega)
    rw [hvi] at h2
    cases h2
    generalize S[i] = s at *
    generalize σ[i] = w at *
    cases s with
    | pl j ds =>
      unfold keep1
      simp only
      split
      · rename_i e
        subst e
        have e2 : w = some vs[j] := q.1.trans hvi
        rw [← e2]; exact q
      · trivial
    | pd j ds =>
      unfold keep1
      simp only
      split
      · rename_i e
        subst e
        have e2 : w = some vs[j] := q.1.trans hvi
        rw [← e2]; exact q
      · trivial
    | ob j c fs =>
      cases j with
      | none => trivial
      | some j =>
        unfold keep1
        simp only
        split
        · rename_i e
          subst e
          have e2 : w = some vs[j] := (q.1 j rfl).trans hvi
          rw [← e2]; exact q
        · trivial
    | _ => trivial
end
section
variable {P : Program} {w : World} {K : PySem.W.Frag} {mg : Str → Option Value} {base : Heap} {C : CL}
theorem DefM.mkFn {x qual : Str} {st : Stmt} {f : Addr} {fd : FuncData} {N ps : List Str} {k n np : Nat} {m : List Sl → SO} (hn : N.length = n) (hnp : ps.length = np) (F : Fun K x qual st f fd) (S : FnScope N ps (defScope st))
    (body : ∀ (pv : List V) (cdv : Value) (A : Around) (outer : List Env) (s : Shared) (H : Hp) (E : XK), Room k (A.deeper (envOfC qual (defScope st) s.heap.objs.size f cdv)) →
      DSs (C.pa pv) (cxOf (L2.CX P w) P w K mg base N qual (defScope st) f cdv A outer s H E) (fun cls d _ H => E cls d H) (defBody st) m) : FnOk P w K mg base (L2.CX P w) (k + 1) f fd ps (spM C K np (runM n np m)) := by
  subst hn hnp
  refine F.okX S (fun vs H Q E ⟨hl, _⟩ => hl) (fun cdv A outer s H vs Q E hr ⟨hl, F', H0, S, o, q⟩ => ?_)
  have hlS : (vs.map some).length = S.length := o.len
  have o' : Ok (C.pa vs) K F' H0 F' H (L2.start N vs) (S ++ List.replicate (N.length - ps.length) Sl.un) := by
    unfold L2.start
    rw [hl]
    exact ok_app o
  refine ⟨_, (body vs cdv A outer s H E hr).run, F', H0, F', _, o', ?_⟩
  unfold runM at q
  have keep : ∀ {σ : St} {S2 : List Sl} {F1 H1 : Hp}, ps.length ≤ S2.length → Ok (C.pa vs) K F' H0 F1 H1 σ S2 → Ok (C.pa vs) K F' H0 F1 H1 (vs.map some) (keepS ps.length S2) := fun h o => ok_keep hl (by rw [o.len]; exact h) o
  cases h : m (S ++ List.replicate (N.length - ps.length) Sl.un) with
  | nx S2 =>
    rw [h] at q
    by_cases c : ps.length ≤ S2.length
    · simp only [if_pos c] at q
      exact fun σ F1 H1 o1 => q .non F1 H1 (keep c o1) .non
    · simp only [if_neg c] at q
  | rs d S2 =>
    rw [h] at q
    by_cases c : ps.length ≤ S2.length
    · simp only [if_pos c] at q
      exact fun σ v F1 H1 o1 r1 => q v F1 H1 (keep c o1) r1
    · simp only [if_neg c] at q
  | ex e S2 =>
    rw [h] at q
    by_cases c : ps.length ≤ S2.length
    · simp only [if_pos c] at q
      exact fun σ F1 H1 o1 cls d F2 H2 e2 z => q F2 H2 ((keep c o1).up e2) cls d z
    · simp only [if_neg c] at q
  | rt d => rw [h] at q; exact q.elim
  | bk S => rw [h] at q; exact q.elim
  | ct S => rw [h] at q; exact q.elim
  | bad => rw [h] at q; exact q.elim
  | rl d => rw [h] at q; exact q.elim
  | rd d => rw [h] at q; exact q.elim
theorem DefM.mk' {x qual : Str} {st : Stmt} {f : Addr} {fd : FuncData} {N ps : List Str} {k n np : Nat} {m : List Sl → SO} (hn : N.length = n) (hnp : ps.length = np) (F : Fun K x qual st f fd) (S : FnScope N ps (defScope st)) (hm : mg x = some (.ref f)) (hb : Binds K fd ps [])
    (body : ∀ (pv : List V) (cdv : Value) (A : Around) (outer : List Env) (s : Shared) (H : Hp) (E : XK), Room k (A.deeper (envOfC qual (defScope st) s.heap.objs.size f cdv)) →
      DSs (C.pa pv) (cxOf (L2.CX P w) P w K mg base N qual (defScope st) f cdv A outer s H E) (fun cls d _ H => E cls d H) (defBody st) m) : DefM P w K mg base C (k + 1) x ps (runM n np m) := by
  subst hnp
  exact ⟨f, fd, DefM.mkFn hn rfl F S body, hm, F.kp, hb⟩
theorem Def.pa {k : Nat} {x : Str} {ps : List Str} {f : List D → R D} (h : Def P w K mg base C k x ps f) (pv : List V) : Def P w K mg base (C.pa pv) k x ps f := ⟨h.ex⟩
theorem DefO.pa {k : Nat} {x : Str} {ps : List Str} {f : List D → RO} (h : DefO P w K mg base C k x ps f) (pv : List V) : DefO P w K mg base (C.pa pv) k x ps f := ⟨h.ex⟩
theorem DefM.pa {k : Nat} {x : Str} {ps : List Str} {f : List Sl → RS} (h : DefM P w K mg base C k x ps f) (pv : List V) : DefM P w K mg base (C.pa pv) k x ps f := ⟨h.ex⟩
end

/-! ### the call -/
def mCallM (i : Nat) (f : List Sl → RS) (m : List Sl → R (List D × List D)) (S : List Sl) : RS := match m S with
  | .ok x => match S[i]? with
    | some s => match lend1 x.1.length s with
      | some t => match f (x.1.map Sl.fz ++ t :: x.2.map Sl.fz) with
        | .ok d Sc => match Sc[x.1.length]? with
          | some t' => match back1 s t' with
            | some s' => .ok d (S.set i s')
            | none => .bad
          | none => .bad
        | .exc e Sc => match Sc[x.1.length]? with
          | some t' => match back1 s t' with
            | some s' => .exc e (S.set i s')
            | none => .bad
          | none => .bad
        | .bad => .bad
      | none => .bad
    | none => .bad
  | .exc e => .exc e S
  | .bad => .bad
section
variable {C : CL} {X : Cx} {W : WX} {e : Expr} {es : List Expr} {pos p : Pos} {x : Str}
/-- from the arguments to the caller's wish -/
theorem call_post {i n : Nat} {f : List Sl → RS} {d1 d2 : List D} {F0 H0 F H : Hp} {σ : St} {S : List Sl} {s t : Sl} {u : V} {ws1 ws2 : List V} {Q : VK} (o : Ok C X.K F0 H0 F H σ S) (hs : S[i]? = some s) (hu : σ[i]? = some (some u)) (ht : lend1 d1.length s = some t) (r1 : RpA X.K F ws1 d1) (r2 : RpA X.K F ws2 d2)
    (hn : d1.length + 1 + d2.length = n)
    (q : PostM C X.K W F0 H0 σ (match f (d1.map Sl.fz ++ t :: d2.map Sl.fz) with
        | .ok d Sc => match Sc[d1.length]? with
          | some t' => match back1 s t' with
            | some s' => .ok d (S.set i s')
            | none => .bad
          | none => .bad
        | .exc e Sc => match Sc[d1.length]? with
          | some t' => match back1 s t' with
            | some s' => .exc e (S.set i s')
            | none => .bad
          | none => .bad
        | .bad => .bad) Q) : spM C X.K n f (ws1 ++ u :: ws2) H Q (WE W σ) := by
  obtain ⟨Hc, oc, back⟩ := ok_lend o hs hu ht r1 r2
  refine ⟨by have := r1.len; have := r2.len; simp; omega, F, Hc, _, oc, ?_⟩
  cases h : f (d1.map Sl.fz ++ t :: d2.map Sl.fz) with
  | ok d Sc =>
    rw [h] at q
    intro v F' H' o' rv
    simp only at q
    split at q
    · rename_i t' ht'
      split at q
      · rename_i s' hb
        exact q v F' H' (back F' H' Sc t' s' o' ht' hb) rv
      · exact q.elim
    · exact q.elim
  | exc y Sc =>
    rw [h] at q
    intro F' H' o' cls d z
    simp only at q
    split at q
    · rename_i t' ht'
      split at q
      · rename_i s' hb
        have ob := back F' H' Sc t' s' o' ht' hb
        exact q F' H' ob cls d F' H' (Ext.refl ob.sub) z
      · exact q.elim
    · exact q.elim
  | bad => rw [h] at q; exact q.elim
theorem dem_call {k j i : Nat} {ps : List Str} {f : List Sl → RS} {m : List Sl → R (List D × List D)} (F : DefM X.prog X.w X.K X.mg X.base C k x ps f) (hr : Room j X.A) (hk : k ≤ j) (tk : Takes X W) (hg : Gl X x) (ha : DAW C X W i (e :: es) m) (hml : ∀ S x, m S = .ok x → x.1.length + 1 + x.2.length = ps.length)
    (hdb : (x == ("__debug__" : Str)) = false := by decide) (he : starEach (e :: es) X.env = (false, eval e X.env) :: starEach es X.env := by rfl) (hpl : (backTo pos (starEach es X.env)).any (·.1) = false := by rfl) :
    DEM C X W (.Call (.Name x p) (e :: es) [] pos) (mCallM i f m) := by
  obtain ⟨a, fd, fn, mgx, kp, hb⟩ := F.ex
  obtain ⟨ta, pa, ka⟩ := ha.ex
  refine .of ⟨_, pe_callS (E := WE W) fn (hr.mono hk) hg mgx kp hb (fun σ => passAt tk σ) pa hdb he hpl, fun F0 H0 F H σ S o Q q => ?_⟩
  refine ka _ _ _ _ _ _ o _ ?_
  unfold mCallM at q
  have hm2 := hml S
  cases hm : m S with
  | ok x =>
    rw [hm] at q
    intro ws1 u ws2 F1 H1 e1 hu r1 r2
    simp only at q
    split at q
    · rename_i s hs
      split at q
      · rename_i t ht
        exact call_post (o.up e1) hs hu ht r1 r2 (hm2 x hm) q
      · exact q.elim
    · exact q.elim
  | exc y => rw [hm] at q; exact q F H o
  | bad => rw [hm] at q; exact q.elim
theorem lenW_here {i n : Nat} {m : List Sl → R (List D)} (h : ∀ S xs, m S = .ok xs → xs.length = n) : ∀ S x, aHere i m S = .ok x → x.1.length + 1 + x.2.length = n + 1 := fun S x q => by
  unfold aHere at q
  split at q
  · obtain ⟨ds, h1, q⟩ := bind_ok q
    cases q
    have := h S ds h1
    simp; omega
  · cases q
theorem lenW_cons {n : Nat} {ma : List Sl → R D} {m : List Sl → R (List D × List D)} (h : ∀ S x, m S = .ok x → x.1.length + 1 + x.2.length = n) : ∀ S x, aConsW ma m S = .ok x → x.1.length + 1 + x.2.length = n + 1 := fun S x q => by
  obtain ⟨d, _, q⟩ := bind_ok q
  obtain ⟨y, h1, q⟩ := bind_ok q
  cases q
  have := h S y h1
  simp; omega
end
end DL
/-! The data layer, part L: how many there are in a set; dicts compared. -/
namespace DL
open PySem L2
open PyProof.Rows (envOfC firstMet step_dedup)

/-- each once -/
def setN (ns : List Int) : List Int := ns.foldl step_dedup []
theorem setN_snoc (ns : List Int) (k : Int) : setN (ns ++ [k]) = step_dedup (setN ns) k := by
  unfold setN; rw [List.foldl_append]; rfl
theorem firstMet_all (ns : List Int) : firstMet (fun i => ns.getD i 0) ns.length = setN ns := by
  unfold firstMet setN
  congr 1
  refine List.ext_getElem (by simp) fun i h1 h2 => ?_
  rw [List.getElem_map, List.getElem_range, List.getD_eq_getElem?_getD, List.getElem?_eq_getElem h2]
  rfl
theorem setN_ok (ns : List Int) : (setN ns).Nodup ∧ ∀ k, k ∈ setN ns ↔ k ∈ ns := by
  obtain ⟨r, e⟩ : ∃ r, ns = r.reverse := ⟨ns.reverse, by simp⟩
  subst e
  induction r with
  | nil => exact ⟨List.nodup_nil, fun k => by simp [setN]⟩
  | cons x r ih =>
    rw [List.reverse_cons, setN_snoc]
    unfold step_dedup
    by_cases c : (setN r.reverse).any (· == x) = true
    · rw [if_pos c]
      obtain ⟨y, hy, e⟩ := List.any_eq_true.mp c
      have e' : y = x := beq_iff_eq.mp e
      subst e'
      refine ⟨ih.1, fun k => ?_⟩
      rw [ih.2 k, List.mem_append]
      have := (ih.2 y).mp hy
      constructor
      · exact .inl
      · rintro (h | h)
        · exact h
        · simp at h; subst h; exact this
    · rw [if_neg c]
      have hx : x ∉ setN r.reverse := fun z => c (List.any_eq_true.mpr ⟨x, z, by simp⟩)
      refine ⟨List.nodup_append.mpr ⟨ih.1, by simp, fun a ha b hb e => by simp at hb; subst hb; subst e; exact hx ha⟩, fun k => ?_⟩
      rw [List.mem_append, List.mem_append, ih.2 k]
theorem setN_len {ns L : List Int} (h : L.Nodup) (m : ∀ k, k ∈ ns ↔ k ∈ L) : L.length = (setN ns).length := by
  obtain ⟨h1, h2⟩ := setN_ok ns
  exact (List.perm_ext_iff_of_nodup h h1 |>.mpr fun k => by rw [h2 k, m k]).length_eq
section
variable {X : Cx}
def tLenSetB (K : PySem.W.Frag) (ta : TE) : TE := fun σ H Q => ta σ H fun x H1 => ∃ (l : Addr) (ns : List Int), x = V.ref l ∧ (SqL K H1 l (ns.map V.int) ∨ SqT K H1 l (ns.map V.int)) ∧ ns.length < 64 ∧ Q (.int (setN ns).length) H1
theorem pe_lenSetB {a : Expr} {ta : TE} {p p2 q pos : Pos} (hc : X.calm = true) (hg : Gl X "len") (hm : X.mg "len" = none) (hg2 : Gl X "set") (hm2 : X.mg "set" = none) (ha : PE X a ta)
    (na : starEach [a] X.env = (false, eval a X.env) :: starEach [] X.env := by rfl) : PE X (.Call (.Name "len" p) [.Call (.Name "set" p2) [a] [] q] [] pos) (tLenSetB X.K ta) := by
  refine ⟨fun pins s σ H Q I h => ?_⟩
  refine PyProof.Rows.Call_ (ld_blt I hg hm PySem.boot_len ?_)
  refine PyProof.Rows.callWith_builtin1 (PyProof.Rows.args_cons ?_ rfl) rfl rfl
  refine PyProof.Rows.Call_ (ld_blt I hg2 hm2 PyProof.Rows.boot_set ?_)
  refine PyProof.Rows.callWith_type1 (PyProof.Rows.args_cons (thn (ha.run pins s σ H _ I h) fun v s1 ⟨x, H1, I1, r1, q1⟩ => PyProof.Rows.args_nil ?_) na) na rfl
  obtain ⟨l, ns, rfl, hq, h1, q1⟩ := q1
  cases r1
  rcases hq with hq | hq
  · obtain ⟨its, r, pl, hz⟩ := I1.list hq
    have hl : its.toArray.size = ns.length := by rw [List.size_toArray, ← r.length, List.length_map]
    refine call_set_list (I1.ok.hd hc) pl.isList (ns := ns) (by simpa using r.ints) (by unfold scanBound; omega) fun h' tk hS hk => ?_
    rw [hl, firstMet_all] at hS
    refine PyProof.Rows.args_nil ?_
    obtain ⟨o, es, ep, t, ho, hex, hd, _, _, _, hf, hn⟩ := hS
    have I2 : Inv X pins σ H1 { s1 with heap := h', toks := tk } := I1.kept fun b o e => hk b o (Heap.lt_size e) e
    have hle : (setN ns).length ≤ ns.length := by
      rw [← firstMet_all]
      exact PyProof.Rows.firstMet_length_le _ _
    refine call_len_set ho hex hd hf (by rw [hn] <;> omega) ⟨.int (setN ns).length, H1, I2.tok _, ⟨_, by rw [hn]⟩, q1⟩
  · obtain ⟨its, r, pl, hz⟩ := I1.tuple hq
    have hl : its.length = ns.length := by rw [← r.length, List.length_map]
    refine call_set_tupI ns (I1.ok.hd hc) pl (by simpa using r.ints) (by unfold scanBound; omega) fun h' tk c hS hc2 hk => ?_
    refine PyProof.Rows.args_nil ?_
    obtain ⟨o, es, ep, t, ho, hex, hd, _, hnd, hmem, _, hf, hn, _⟩ := hS
    have I2 : Inv X pins σ H1 { s1 with heap := h', toks := tk } := I1.kept fun b o e => hk b o e
    have e : es.size = (setN ns).length := by
      rw [← setN_len hnd fun k => by rw [← hmem k]; simp]
      simp
    refine call_len_set ho hex hd hf (by omega) ⟨.int (setN ns).length, H1, I2.tok _, ⟨_, by rw [e]⟩, q1⟩
end
def lenSetD : D → R D
  | .lst ds => match intsD ds with
    | some ns => if ns.length < 64 then .ok (.int (setN ns).length) else .bad
    | none => .bad
  | .tup ds => match intsD ds with
    | some ns => if ns.length < 64 then .ok (.int (setN ns).length) else .bad
    | none => .bad
  | _ => .bad
def intsE : List (Int × D) → Option (List (Int × Int))
  | [] => some []
  | (k, .int i) :: es => (intsE es).map ((k, i) :: ·)
  | _ => none
/-- dicts of numbers that are the same -/
def neDc : D → D → R D
  | .dct a, .dct b => match intsE a, intsE b with
    | some x, some y => if x = y ∧ (x.map (·.1)).Nodup then .ok (.bl false) else .bad
    | _, _ => .bad
  | _, _ => .bad
theorem intsE_rp {K : PySem.W.Frag} {F : Hp} : ∀ {es : List (Int × D)} {vs : List (Key × V)} {x : List (Int × Int)}, RpK K F vs es → intsE es = some x → vs = x.map fun p => ((.inl p.1 : Key), V.int p.2)
  | [], _, x, h, e => by cases h; cases e; rfl
  | (k, d) :: es, _, x, h, e => by
    cases h with
    | cons h1 h2 =>
      cases d with
      | int i =>
        unfold intsE at e
        cases h3 : intsE es with
        | none => rw [h3] at e; cases e
        | some y =>
          rw [h3] at e
          cases e
          rw [intsE_rp h2 h3]
          cases h1
          rfl
      | _ => cases e
theorem valV_ints : ∀ {x : List (Int × Int)}, (x.map (·.1)).Nodup → ∀ p ∈ x, valV (x.map fun p => ((.inl p.1 : Key), V.int p.2)) (.inl p.1) = some (V.int p.2)
  | q :: x, h, p, hp => by
    rw [List.map_cons, List.nodup_cons] at h
    rcases List.mem_cons.mp hp with e | hp
    · rw [e]; exact valV_pos rfl
    · rw [List.map_cons, valV_neg (by
        intro z
        have z' : q.1 = p.1 := by injection z
        exact h.1 (List.mem_map.mpr ⟨p, hp, z'.symm⟩))]
      exact valV_ints h.2 p hp
def rNeDR : R2 := fun x y H Q => ∃ a b ks ls, x = .ref a ∧ y = .ref b ∧ Rd H a (.dK ks) ∧ Rd H b (.dK ls) ∧ ks.length = ls.length ∧ (∀ p ∈ ks, valV ls p.1 = some p.2 ∧ flatB p.2 = true) ∧ Q (.bl false) H
theorem op_ne_dictR {X : Cx} (hu : X.A.units < cLine) : OpR X (compareOp .NotEq) rNeDR := by
  intro pins s σ H x y v u Q I rx ry h
  obtain ⟨a, b, ks, ls, rfl, rfl, ea, eb, hlen, hp, q⟩ := h
  obtain rfl : v = Value.ref a := rx
  obtain rfl : u = Value.ref b := ry
  obtain ⟨_, ya, va, ra, da⟩ := (show ObjOk X.prog X.w H s.heap a (.dK ks) from ea.ok I.hok)
  obtain ⟨_, yb, vb, rb, db⟩ := (show ObjOk X.prog X.w H s.heap b (.dK ls) from eb.ok I.hok)
  have hl : va.length = vb.length := by rw [← ra.length, ← rb.length]; exact hlen
  exact PySem.W.keq_ne (knd := mixKind X.prog X.w) (r := true) ya yb da db hu (fun _ => hits_all rb ra hp) (fin_bl I q (by simp [hl]))
section
variable {C : CL} {X : Cx} {W : WX}
theorem opd_neDc (hu : X.A.units + 64 < cLine) : OpD X (compareOp .NotEq) neDc := by
  refine ⟨_, op_ne_dictR (by omega), fun F H x y vx vy Q e hx hy h => ?_⟩
  cases x with
  | dct a =>
    cases y with
    | dct b =>
      obtain ⟨p, vs, rfl, h1, r1⟩ := hx.isDct e
      obtain ⟨q, us, rfl, h2, r2⟩ := hy.isDct e
      unfold neDc at h
      simp only at h
      cases ha : intsE a with
      | none => rw [ha] at h; exact h.elim
      | some x =>
        cases hb : intsE b with
        | none => rw [ha, hb] at h; exact h.elim
        | some y =>
          rw [ha, hb] at h
          simp only at h
          by_cases c : x = y ∧ (x.map (·.1)).Nodup
          · rw [if_pos c] at h
            obtain ⟨c1, c2⟩ := c
            subst c1
            have ev := intsE_rp r1 ha
            have eu := intsE_rp r2 hb
            subst ev
            subst eu
            refine ⟨p, q, _, _, rfl, rfl, h1, h2, rfl, fun z hz => ?_, PostP.here (x := .bl false) h e (.bl _)⟩
            obtain ⟨w, hw, rfl⟩ := List.mem_map.mp hz
            exact ⟨valV_ints c2 w hw, rfl⟩
          · rw [if_neg c] at h; exact h.elim
    | _ => exact h.elim
  | _ => cases y <;> exact h.elim
theorem de_lenSet {a : Expr} {m : List Sl → R D} {p p2 q pos : Pos} (ha : DR C X W a m) (hc : X.calm = true) (hg : Gl X "len") (hm : X.mg "len" = none) (hg2 : Gl X "set") (hm2 : X.mg "set" = none)
    (na : starEach [a] X.env = (false, eval a X.env) :: starEach [] X.env := by rfl) : DE C X W (.Call (.Name "len" p) [.Call (.Name "set" p2) [a] [] q] [] pos) (fun S => (m S).bind lenSetD) := by
  obtain ⟨ta, pa, ka⟩ := ha.ex
  refine .of ⟨_, pe_lenSetB hc hg hm hg2 hm2 pa na, fun F0 H0 F H σ S o Q q => ?_⟩
  refine ka _ _ _ _ _ _ o _ (PostV.to (gE Q) q fun x v F1 H1 e1 w1 q1 => ?_)
  cases x with
  | lst ds =>
    obtain ⟨a, vs, rfl, h1, ra⟩ := w1.isLst e1.fh
    unfold lenSetD at q1
    simp only at q1
    cases hn : intsD ds with
    | none => rw [hn] at q1; exact q1.elim
    | some ns =>
      rw [hn] at q1
      simp only at q1
      by_cases c : ns.length < 64
      · rw [if_pos c] at q1
        have ev := ints_rp ra hn
        subst ev
        exact ⟨a, ns, rfl, .inl (SqL.of h1), c, Post.here q1 e1.fh (.int _)⟩
      · rw [if_neg c] at q1; exact q1.elim
  | tup ds =>
    obtain ⟨a, vs, rfl, h1, ra⟩ := w1.isTup
    unfold lenSetD at q1
    simp only at q1
    cases hn : intsD ds with
    | none => rw [hn] at q1; exact q1.elim
    | some ns =>
      rw [hn] at q1
      simp only at q1
      by_cases c : ns.length < 64
      · rw [if_pos c] at q1
        have ev := ints_rp ra hn
        subst ev
        exact ⟨a, ns, rfl, .inr (SqT.of (e1.fh _ _ h1)), c, Post.here q1 e1.fh (.int _)⟩
      · rw [if_neg c] at q1; exact q1.elim
  | _ => exact q1.elim
end
/-! ### dicts of data compared -/
def rNeDD (K : PySem.W.Frag) : R2 := fun x y H Q => ∃ a b ks ls, x = .ref a ∧ y = .ref b ∧ Rd H a (.dK ks) ∧ Rd H b (.dK ls) ∧ ks.length = ls.length ∧ (∀ p ∈ ks, ∃ z d e, valV ls p.1 = some z ∧ Dp K H p.2 d ∧ Dp K H z e ∧ SeqAt.shaped d = true ∧ SeqAt.shaped e = true ∧ PyData.eqv d e = true) ∧ Q (.bl false) H
theorem hits_deep {X : Cx} {pins : List (Addr × Obj)} {σ : St} {H : Hp} {s : Shared} (I : Inv X pins σ H s) {A : Around} (hu : A.units + 64 < cLine) {kvs : List (Key × V)} {vb : List (Key × Value)} (rb : KV kvs vb) {ks : List (Key × V)} {va : List (Key × Value)} (ra : KV ks va) :
    (∀ p ∈ ks, ∃ z d e, valV kvs p.1 = some z ∧ Dp X.K H p.2 d ∧ Dp X.K H z e ∧ SeqAt.shaped d = true ∧ SeqAt.shaped e = true ∧ PyData.eqv d e = true) → PySem.W.KeqHits A s vb va true := by
  unfold KV at ra
  induction ra with
  | nil => intro _; exact .nil
  | @cons p q ps qs h t ih =>
    intro hp
    obtain ⟨h1, h2⟩ := h
    obtain ⟨z, d, e, ez, hd, he, sd, se, ee⟩ := hp p List.mem_cons_self
    have rr : RelO (some z) (valueAt vb p.1) := by rw [← ez]; exact rb.val p.1
    obtain ⟨y, hy, ry⟩ := rr.some_of
    obtain ⟨k, v⟩ := q
    have h1' : p.1 = k := h1
    rw [h1'] at hy
    obtain ⟨as, r1⟩ := Dp.reads I d _ v hd h2
    obtain ⟨bs, r2⟩ := Dp.reads I e _ y he ry
    have q := SeqAt.eqAt_reads d e A s v y as bs r1 r2 (SeqAt.canLay_of_shaped sd) (SeqAt.canLay_of_shaped se) (SeqAt.room_of_shaped sd hu)
    rw [ee] at q
    show PySem.W.KeqHits A s vb ((k, v) :: qs) (true && true)
    exact .hit hy q (ih fun p' hm => hp p' (List.mem_cons_of_mem _ hm))
theorem op_ne_dictD {X : Cx} (hu : X.A.units + 65 < cLine) : OpR X (compareOp .NotEq) (rNeDD X.K) := by
  intro pins s σ H x y v u Q I rx ry h
  obtain ⟨a, b, ks, ls, rfl, rfl, ea, eb, hlen, hp, q⟩ := h
  obtain rfl : v = Value.ref a := rx
  obtain rfl : u = Value.ref b := ry
  obtain ⟨_, ya, va, ra, da⟩ := (show ObjOk X.prog X.w H s.heap a (.dK ks) from ea.ok I.hok)
  obtain ⟨_, yb, vb, rb, db⟩ := (show ObjOk X.prog X.w H s.heap b (.dK ls) from eb.ok I.hok)
  have hl : va.length = vb.length := by rw [← ra.length, ← rb.length]; exact hlen
  exact PySem.W.keq_ne (knd := mixKind X.prog X.w) (r := true) ya yb da db (by omega) (fun _ => hits_deep I (by show X.A.units + 1 + 64 < cLine; omega) rb ra hp) (fin_bl I q (by simp [hl]))
/-- dicts that are alike -/
def likeE (b : List (Int × D)) (p : Int × D) : Bool := match keyD b p.1 with
  | some e => okPy p.2 && okPy e && eqvD p.2 e
  | none => false
def neDE : D → D → R D
  | .dct a, .dct b => if a.length = b.length ∧ a.all (likeE b) = true then .ok (.bl false) else .bad
  | _, _ => .bad
theorem RpK.mem {K : PySem.W.Frag} {F : Hp} : ∀ {vs : List (Key × V)} {es : List (Int × D)}, RpK K F vs es → ∀ p ∈ vs, ∃ k d, (k, d) ∈ es ∧ p.1 = Sum.inl k ∧ Rp K F p.2 d
  | _, [], h, p, hp => by cases h; cases hp
  | _, (k, d) :: es, h, p, hp => by
    cases h with
    | cons h1 h2 =>
      rcases List.mem_cons.mp hp with z | z
      · subst z; exact ⟨k, d, List.mem_cons_self .., rfl, h1⟩
      · obtain ⟨k', d', m, e1, e2⟩ := RpK.mem h2 p z
        exact ⟨k', d', List.mem_cons_of_mem _ m, e1, e2⟩
theorem opd_neDE {X : Cx} (hu : X.A.units + 65 < cLine) : OpD X (compareOp .NotEq) neDE := by
  refine ⟨_, op_ne_dictD hu, fun F H x y vx vy Q e hx hy h => ?_⟩
  cases x with
  | dct a =>
    cases y with
    | dct b =>
      obtain ⟨p, vs, rfl, h1, r1⟩ := hx.isDct e
      obtain ⟨q, us, rfl, h2, r2⟩ := hy.isDct e
      unfold neDE at h
      simp only at h
      by_cases c : a.length = b.length ∧ a.all (likeE b) = true
      · rw [if_pos c] at h
        refine ⟨p, q, _, _, rfl, rfl, h1, h2, by rw [r1.len, r2.len]; exact c.1, fun z hz => ?_, PostP.here (x := .bl false) h e (.bl _)⟩
        obtain ⟨k, d, m, e1, e2⟩ := r1.mem z hz
        have l := List.all_eq_true.mp c.2 _ m
        unfold likeE at l
        rcases valV_keyD k r2 with ⟨z1, z2⟩ | ⟨v, d', z1, z2, z3⟩
        · simp only [z2] at l; cases l
        · simp only [z2, Bool.and_eq_true] at l
          refine ⟨v, _, _, by rw [e1]; exact z1, Rp.dp d _ (e2.up e) (lay_of l.1.1), Rp.dp d' _ (z3.up e) (lay_of l.1.2), l.1.1, l.1.2, l.2⟩
      · rw [if_neg c] at h; exact h.elim
    | _ => exact h.elim
  | _ => cases y <;> exact h.elim
end DL
/-! The data layer, part Z: groups (a list of pairs, the second a list of one's own). -/
namespace DL
open PySem L2
open PyProof.Rows (envOfC)

/-- an empty list of one's own, groups from now on -/
def mToG (i : Nat) (b : Bool) (S : List Sl) : SO := match S[i]? with
  | some (.ol []) => .nx (S.set i (.og b []))
  | _ => .bad
def mGrp (i : Nat) (m : List Sl → R D) (S : List Sl) : SO := match S[i]? with
  | some (.og b gs) => toS (m S) S fun d => match d with
    | .int k => if gs.length < sizeLine then .nx (S.set i (.og b (gs ++ [(k, [])]))) else .bad
    | _ => .bad
  | _ => .bad
def mGrpT (i : Nat) (m : List Sl → R D) (S : List Sl) : SO := match S[i]? with
  | some (.og false _) => mGrp i m S
  | _ => .bad
def mGrpL (i : Nat) (m : List Sl → R D) (S : List Sl) : SO := match S[i]? with
  | some (.og true _) => mGrp i m S
  | _ => .bad
/-- put at the last group's list -/
def lastG : List (Int × List Int) → Int → Option (List (Int × List Int))
  | [], _ => none
  | [(k, hs)], x => if hs.length < sizeLine then some [(k, hs ++ [x])] else none
  | g :: g2 :: gs, x => (lastG (g2 :: gs) x).map (g :: ·)
section
variable {C : CL} {K : PySem.W.Frag} {F0 H0 F H F1 H1 H' : Hp} {σ : St} {S : List Sl}
theorem Ok.ogAt {σ : St} {S : List Sl} {i : Nat} {b : Bool} {gs : List (Int × List Int)} (o : Ok C K F0 H0 F H σ S) (h : S[i]? = some (.og b gs)) :
    ∃ p ts, σ[i]? = some (some (.ref p)) ∧ F p = none ∧ H p = some (.lst ts) ∧ ∃ O : Addr → Nat → Prop, (∀ a n m, O a n → O a m → n = m) ∧ O p 0 ∧ GsR H O b 1 ts gs := by
  obtain ⟨v, hv, _⟩ := o.at h
  obtain ⟨ow, w1, w2⟩ := o.ow
  obtain ⟨p, ts, h1, h2, h3, h4⟩ := w2 i _ v h hv
  subst h1
  exact ⟨p, ts, hv, (w1 p _ h2).2.1, h3, fun a n => ow a = some (i, n), fun a n m z1 z2 => by have := (show ow a = some (i, n) from z1).symm.trans z2; cases this; rfl, h2, h4⟩
theorem Ok.chgF {i : Nat} {s t : Sl} {v : Option V} (N : Addr → Option Nat) (o : Ok C K F0 H0 F H σ S) (e : Ext F H F1 H1) (hN : ∀ a n, N a = some n → H a = none ∧ F1 a = none ∧ ∃ u, H1 a = some u ∧ ownable u = true) (hs : S[i]? = some s) (hv : σ[i]? = some v)
    (k : ∀ O : Addr → Nat → Prop, (∀ a n, O a n → F1 a = none ∧ N a = none ∧ ∃ u, H1 a = some u ∧ ownable u = true) → (∀ a n m, O a n → O a m → n = m) → SlR C K F1 H1 O v s → ∃ (p : Addr) (n : Nat) (u : HO), O p n ∧ ownable u = true ∧ H' = upd H1 p u ∧ SlR C K F1 (upd H1 p u) (fun a m => O a m ∨ N a = some m) v t) : Ok C K F0 H0 F1 H' σ (S.set i t) := by
  have o1 := o.up e
  obtain ⟨ow, w1, w2⟩ := o.ow
  have hn : ∀ a x, ow a = some x → N a = none := fun a x h => by
    cases z : N a with
    | none => rfl
    | some n => obtain ⟨_, _, u, hu, _⟩ := w1 a x h; rw [(hN a n z).1] at hu; cases hu
  have w1' : ∀ a x, ow a = some x → F1 a = none ∧ N a = none ∧ ∃ u, H1 a = some u ∧ ownable u = true := fun a x h => by
    obtain ⟨z1, z2, u, z3, z4⟩ := w1 a x h
    exact ⟨(e.old a u z3 (own_tup z4)).trans z2, hn a x h, u, e.hh _ _ z3, z4⟩
  have hs' : SlR C K F1 H1 (fun a n => ow a = some (i, n)) v s := (w2 i s v hs hv).frame (Same.upR e.ff) (fun a n h => by
    obtain ⟨z1, z2, u, z3, z4⟩ := w1 a _ h
    rw [z3, e.hh _ _ z3]) (Same.keep e.hh) fun _ _ h => h
  obtain ⟨p, n, u, hp, hu, rfl, ht⟩ := k _ (fun a n h => w1' a _ h) (fun a n m h1 h2 => by rw [h1] at h2; cases h2; rfl) hs'
  obtain ⟨fp, _, w, hw, hw2⟩ := w1' p _ hp
  refine ⟨fun a x ha => ?_, o1.f0, fun a x ha => ?_, o1.old, by simp [o.len], ?_⟩
  · have na : a ≠ p := fun z => by rw [z, fp] at ha; cases ha
    rw [upd_ne na]; exact o1.sub _ _ ha
  · have na : a ≠ p := fun z => by rw [z, (w1 p _ hp).1] at ha; cases ha
    rw [upd_ne na]; exact o1.h0 _ _ ha
  · refine ⟨fun a => match N a with | some m => some (i, m) | none => ow a, fun a x ha => ?_, fun j r w' h1 h2 => ?_⟩
    · have main : H0 a = none ∧ F1 a = none ∧ ∃ u, H1 a = some u ∧ ownable u = true := by
        cases z : N a with
        | some m => obtain ⟨z1, z2, z3⟩ := hN a m z; exact ⟨o.h0.free z1, z2, z3⟩
        | none =>
          simp only [z] at ha
          exact ⟨(w1 a x ha).1, (w1' a x ha).1, (w1' a x ha).2.2⟩
      refine ⟨main.1, main.2.1, ?_⟩
      by_cases c : a = p
      · subst c; exact ⟨u, upd_same, hu⟩
      · rw [upd_ne c]; exact main.2.2
    · by_cases c : i = j
      · subst c
        have hi : i < S.length := by have := (List.getElem?_eq_some_iff.mp h1).1; simpa using this
        rw [List.getElem?_set_self hi] at h1
        cases h1
        rw [hv] at h2
        cases h2
        refine ht.frame (Same.upR (Same.refl _)) (fun _ _ _ => rfl) (fun _ _ h _ => h) fun a m h => ?_
        rcases h with h | h
        · simp only [hn a _ h]; exact h
        · simp only [h]
      · rw [List.getElem?_set_ne c] at h1
        refine (w2 j r w' h1 h2).frame (Same.upR e.ff) (fun a m h => ?_) (fun a x h n => ?_) fun a m h => ?_
        · have na : a ≠ p := fun z => by rw [z, hp] at h; cases h; exact c rfl
          obtain ⟨z1, z2, u, z3, z4⟩ := w1 a _ h
          rw [upd_ne na, z3, e.hh _ _ z3]
        · exact keep_upd hw hw2 a x (e.hh _ _ h) n
        · simp only [hn a _ h]; exact h
theorem GsR.pos {H : Hp} {O : Addr → Nat → Prop} {b : Bool} {n : Nat} {ts : List V} {gs : List (Int × List Int)} (h : GsR H O b n ts gs) : 1 ≤ n → GsR H (fun a m => O a m ∧ 1 ≤ m) b n ts gs := by
  induction h with
  | nil => intro _; exact .nil
  | cons a1 a2 a3 a4 _ ih => intro hn; exact .cons a1 (fun e => ⟨a2 e, hn⟩) ⟨a3, by omega⟩ a4 (ih (by omega))
theorem GsR.len {H : Hp} {O : Addr → Nat → Prop} {b : Bool} {n : Nat} {ts : List V} {gs : List (Int × List Int)} (h : GsR H O b n ts gs) : ts.length = gs.length := by
  induction h with
  | nil => rfl
  | cons _ _ _ _ _ ih => simp [ih]
theorem GsR.snoc {H : Hp} {O : Addr → Nat → Prop} {b : Bool} {n : Nat} {ts : List V} {gs : List (Int × List Int)} (h : GsR H O b n ts gs) : ∀ {t q : Addr} {k : Int}, H t = some (if b then .lst [.int k, .ref q] else .tup [.int k, .ref q]) → (b = true → O t (n + 2 * gs.length)) → O q (n + 2 * gs.length + 1) → H q = some (.lst []) → GsR H O b n (ts ++ [.ref t]) (gs ++ [(k, [])]) := by
  induction h with
  | nil => exact fun h1 h2 h3 h4 => .cons h1 h2 h3 h4 .nil
  | @cons n t' q' k' hs ts gs a1 a2 a3 a4 a5 ih =>
    intro t q k h1 h2 h3 h4
    have e : n + 2 * ((k', hs) :: gs).length = n + 2 + 2 * gs.length := by simp; omega
    rw [e] at h2 h3
    exact .cons a1 a2 a3 a4 (ih h1 h2 h3 h4)
theorem GsR.lastU {H : Hp} {O : Addr → Nat → Prop} {b : Bool} (hf : ∀ a n m, O a n → O a m → n = m) {n : Nat} {ts : List V} {gs : List (Int × List Int)} (h : GsR H O b n ts gs) : gs ≠ [] →
    ∃ t q k hs m, ts.getLast? = some (V.ref t) ∧ H t = some (if b then .lst [.int k, .ref q] else .tup [.int k, .ref q]) ∧ n + 1 ≤ m ∧ O q m ∧ H q = some (.lst (hs.map V.int)) ∧
      ∀ (x : Int) (gs' : List (Int × List Int)), lastG gs x = some gs' → hs.length < sizeLine ∧ ∀ H', H' q = some (.lst ((hs ++ [x]).map V.int)) → (∀ a n', O a n' → a ≠ q → H' a = H a) → Keep H H' → GsR H' O b n ts gs' := by
  induction h with
  | nil => intro hl; exact absurd rfl hl
  | @cons n t q k hs ts gs a1 a2 a3 a4 a5 ih =>
    intro _
    cases a5 with
    | nil =>
      refine ⟨t, q, k, hs, n + 1, rfl, a1, Nat.le_refl _, a3, a4, fun x gs' hl => ?_⟩
      unfold lastG at hl
      by_cases c : hs.length < sizeLine
      · rw [if_pos c] at hl
        cases hl
        refine ⟨c, fun H' h1 h2 h3 => .cons ?_ a2 a3 h1 .nil⟩
        cases b with
        | true => exact (h2 t n (a2 rfl) (fun e => by subst e; have := hf _ _ _ (a2 rfl) a3; omega)).trans a1
        | false => exact h3 t _ a1 rfl
      · rw [if_neg c] at hl; cases hl
    | @cons _ t2 q2 k2 hs2 ts2 gs2 b1 b2 b3 b4 b5 =>
      obtain ⟨t', q', k', hs', m, z1, z2, z3, z4, z5, z6⟩ := ih (by simp)
      refine ⟨t', q', k', hs', m, by rw [List.getLast?_cons_cons]; exact z1, z2, by omega, z4, z5, fun x gs' hl => ?_⟩
      unfold lastG at hl
      cases hl2 : lastG ((k2, hs2) :: gs2) x with
      | none => rw [hl2] at hl; cases hl
      | some g2 =>
        rw [hl2] at hl
        cases hl
        obtain ⟨z7, z8⟩ := z6 x g2 hl2
        refine ⟨z7, fun H' h1 h2 h3 => .cons ?_ a2 a3 ?_ (z8 H' h1 h2 h3)⟩
        · cases b with
          | true => exact (h2 t n (a2 rfl) (fun e => by subst e; have := hf _ _ _ (a2 rfl) z4; omega)).trans a1
          | false => exact h3 t _ a1 rfl
        · exact (h2 q (n + 1) a3 (fun e => by subst e; have := hf _ _ _ a3 z4; omega)).trans a4
theorem Ok.toG {σ : St} {S : List Sl} {i : Nat} {b : Bool} (o : Ok C K F0 H0 F H σ S) (h : S[i]? = some (.ol [])) : Ok C K F0 H0 F H σ (S.set i (.og b [])) := by
  obtain ⟨ow, w1, w2⟩ := o.ow
  refine ⟨o.sub, o.f0, o.h0, o.old, by simp [o.len], ow, w1, fun j s v h1 h2 => ?_⟩
  by_cases c : i = j
  · subst c
    rw [List.getElem?_set_self (List.getElem?_eq_some_iff.mp h).1] at h1
    cases h1
    obtain ⟨p, vs, z1, z2, z3, z4⟩ := w2 i _ v h h2
    cases z4
    exact ⟨p, [], z1, z2, z3, .nil⟩
  · rw [List.getElem?_set_ne c] at h1
    exact w2 j s v h1 h2
end
section
variable {C : CL} {X : Cx} {W : WX} {e o : Expr} {sts : List Stmt} {pos apos cpos p1 p2 : Pos}
theorem dss_toG {i : Nat} {b : Bool} {m : List Sl → SO} (hb : DSs C X W sts m) : DSs C X W sts (mSeq (mToG i b) m) := by
  refine .of ⟨_, hb.run, fun F0 H0 F H σ S o E q => ?_⟩
  by_cases c : S[i]? = some (.ol [])
  · have e : mToG i b S = .nx (S.set i (.og b [])) := by unfold mToG; rw [c]
    unfold mSeq at q
    rw [e] at q
    exact ⟨F0, H0, F, _, o.toG c, q⟩
  · have e : mToG i b S = .bad := by
      unfold mToG
      split
      · rename_i h; exact absurd h c
      · rfl
    unfold mSeq at q
    rw [e] at q
    exact q.elim
/-- found.append((k, [])) -/
theorem ds_grp {i n : Nat} {m : List Sl → R D} (ho : PE X o (tVar i)) (he : DR C X W e m)
    (hs1 : starEach (e :: [.List [] p1]) X.env = (false, eval e X.env) :: starEach [.List [] p1] X.env := by rfl) (hs2 : starEach [.List [] p1] X.env = (false, eval (.List [] p1) X.env) :: starEach [] X.env := by rfl)
    (hbase : attributeBase o "append" X.env (eval o X.env) = eval o X.env := by rfl)
    (hfew : ((backTo cpos (starEach ((.Tuple [e, .List [] p1] n p2) :: []) X.env)).all (fun x => !x.1) && (backToKw cpos (keywordEach [] X.env)).all (fun x => x.1.isSome) && decide (((Expr.Tuple [e, .List [] p1] n p2) :: []).length + ([] : List Keyword).length + (if ([] : List Keyword).isEmpty then 0 else 1) < 30)) = true := by rfl)
    (hline : (apos.endLine == cpos.line) = true := by rfl) (hs : starEach ((.Tuple [e, .List [] p1] n p2) :: []) X.env = (false, eval (.Tuple [e, .List [] p1] n p2) X.env) :: starEach [] X.env := by rfl) (hplain : (backTo cpos (starEach [] X.env)).any (·.1) = false := by rfl)
    (hsw : swapsWith (.Call (.Attribute o "append" apos) ((.Tuple [e, .List [] p1] n p2) :: []) [] cpos) none pos.line X.env = pure false := by rfl) :
    DS C X W (.Expr (.Call (.Attribute o "append" apos) ((.Tuple [e, .List [] p1] n p2) :: []) [] cpos) pos) (mGrpT i m) := by
  obtain ⟨t, p, k⟩ := he.ex
  refine .of ⟨_, ps_expr (pe_bm PySem.F.plainAttrs_list PySem.F.slot_list_append PySem.F.type_list_append mt_append ho (pa_cons (pe_tup (pa_cons p (pa_cons (pe_lst pa_nil) pa_nil hs2) hs1)) pa_nil hs) hbase hfew hline hs hplain) hsw, fun F0 H0 F H σ S ok E q => ?_⟩
  unfold mGrpT at q
  split at q
  · rename_i gs hd
    unfold mGrp at q
    rw [hd] at q
    simp only at q
    obtain ⟨a, ts, h1, hF, hH, O, hO, hOa, hG⟩ := ok.ogAt hd
    refine ⟨_, h1, .inl ⟨rfl, ts, SqL.of hH⟩, ?_⟩
    refine k _ _ _ _ _ _ ok _ (PostV.ofS ok q fun d v F1 H1 e1 o1 r1 q1 => ?_)
    cases d with
    | int j =>
      cases r1.isInt
      simp only at q1
      by_cases hl : gs.length < sizeLine
      · rw [if_pos hl] at q1
        refine ⟨by decide, fun x hx => ⟨by simp; decide, fun y hy => ?_⟩⟩
        have hx' : F1 x = none := none_of e1.fh hx
        have hy1 : H1 y = none := by
          have : y ≠ x := fun z => by rw [z, upd_same] at hy; cases hy
          rw [upd_ne this] at hy; exact hy
        have hyx : y ≠ x := fun z => by rw [z, upd_same] at hy; cases hy
        have hHa : H1 a = some (.lst ts) := e1.hh _ _ hH
        have hax : a ≠ x := fun z => by rw [z, hx] at hHa; cases hHa
        have hay : a ≠ y := fun z => by rw [z, hy1] at hHa; cases hHa
        have ee : Ext F1 H1 F1 (upd (upd H1 x (.lst [])) y (.tup [.int j, .ref x])) := (Ext.newO e1.fh hx).trans (Ext.newO (e1.fh.trans (same_new hx)) hy)
        refine ⟨a, ts, .ref y, rfl, rfl, by rw [upd_ne hay, upd_ne hax]; exact hHa, by rw [hG.len]; exact hl, ?_⟩
        refine q1 σ F1 _ (o1.chgF (fun b => if b = x then some (1 + 2 * gs.length + 1) else none) ee (fun b n hb => ?_) hd h1 fun O hO hf q => ?_)
        · split at hb
          · rename_i e
            subst e
            exact ⟨hx, hx', _, by rw [upd_ne hyx.symm, upd_same], rfl⟩
          · cases hb
        · obtain ⟨p, ts', z1, z2, z3, z4⟩ := q
          cases z1
          rw [upd_ne hay, upd_ne hax, hHa] at z3
          cases z3
          refine ⟨a, 0, .lst (ts ++ [.ref y]), z2, rfl, rfl, a, ts ++ [.ref y], rfl, .inl z2, upd_same, ?_⟩
          have z5 := (z4.pos (Nat.le_refl 1)).frame (H' := upd (upd (upd H1 x (.lst [])) y (.tup [.int j, .ref x])) a (.lst (ts ++ [.ref y]))) (O' := fun b m => O b m ∨ (if b = x then some (1 + 2 * gs.length + 1) else none) = some m) (fun b n hb => by
            have : b ≠ a := fun z => by subst z; have := hf b _ _ hb.1 z2; omega
            rw [upd_ne this]) (keep_upd (by rw [upd_ne hay, upd_ne hax]; exact hHa) rfl) (fun b n hb => .inl hb.1)
          refine z5.snoc (t := y) (q := x) ?_ (fun z => by cases z) (.inr (by rw [if_pos rfl])) ?_
          · rw [upd_ne hay.symm, upd_same]; rfl
          · rw [upd_ne hax.symm, upd_ne hyx.symm, upd_same]
      · rw [if_neg hl] at q1; exact q1.elim
    | _ => exact q1.elim
  · exact q.elim
/-- found.append([k, []]) -/
theorem ds_grpL {i : Nat} {m : List Sl → R D} (ho : PE X o (tVar i)) (he : DR C X W e m)
    (hs1 : starEach (e :: [.List [] p1]) X.env = (false, eval e X.env) :: starEach [.List [] p1] X.env := by rfl) (hs2 : starEach [.List [] p1] X.env = (false, eval (.List [] p1) X.env) :: starEach [] X.env := by rfl)
    (hbase : attributeBase o "append" X.env (eval o X.env) = eval o X.env := by rfl)
    (hfew : ((backTo cpos (starEach ((.List [e, .List [] p1] p2) :: []) X.env)).all (fun x => !x.1) && (backToKw cpos (keywordEach [] X.env)).all (fun x => x.1.isSome) && decide (((Expr.List [e, .List [] p1] p2) :: []).length + ([] : List Keyword).length + (if ([] : List Keyword).isEmpty then 0 else 1) < 30)) = true := by rfl)
    (hline : (apos.endLine == cpos.line) = true := by rfl) (hs : starEach ((.List [e, .List [] p1] p2) :: []) X.env = (false, eval (.List [e, .List [] p1] p2) X.env) :: starEach [] X.env := by rfl) (hplain : (backTo cpos (starEach [] X.env)).any (·.1) = false := by rfl)
    (hsw : swapsWith (.Call (.Attribute o "append" apos) ((.List [e, .List [] p1] p2) :: []) [] cpos) none pos.line X.env = pure false := by rfl) :
    DS C X W (.Expr (.Call (.Attribute o "append" apos) ((.List [e, .List [] p1] p2) :: []) [] cpos) pos) (mGrpL i m) := by
  obtain ⟨t, p, k⟩ := he.ex
  refine .of ⟨_, ps_expr (pe_bm PySem.F.plainAttrs_list PySem.F.slot_list_append PySem.F.type_list_append mt_append ho (pa_cons (pe_lst (pa_cons p (pa_cons (pe_lst pa_nil) pa_nil hs2) hs1)) pa_nil hs) hbase hfew hline hs hplain) hsw, fun F0 H0 F H σ S ok E q => ?_⟩
  unfold mGrpL at q
  split at q
  · rename_i gs hd
    unfold mGrp at q
    rw [hd] at q
    simp only at q
    obtain ⟨a, ts, h1, hF, hH, O, hO, hOa, hG⟩ := ok.ogAt hd
    refine ⟨_, h1, .inl ⟨rfl, ts, SqL.of hH⟩, ?_⟩
    refine k _ _ _ _ _ _ ok _ (PostV.ofS ok q fun d v F1 H1 e1 o1 r1 q1 => ?_)
    cases d with
    | int j =>
      cases r1.isInt
      simp only at q1
      by_cases hl : gs.length < sizeLine
      · rw [if_pos hl] at q1
        refine ⟨by decide, fun x hx => ⟨by simp; decide, fun y hy => ?_⟩⟩
        have hx' : F1 x = none := none_of e1.fh hx
        have hy1 : H1 y = none := by
          have : y ≠ x := fun z => by rw [z, upd_same] at hy; cases hy
          rw [upd_ne this] at hy; exact hy
        have hyx : y ≠ x := fun z => by rw [z, upd_same] at hy; cases hy
        have hHa : H1 a = some (.lst ts) := e1.hh _ _ hH
        have hax : a ≠ x := fun z => by rw [z, hx] at hHa; cases hHa
        have hay : a ≠ y := fun z => by rw [z, hy1] at hHa; cases hHa
        have ee : Ext F1 H1 F1 (upd (upd H1 x (.lst [])) y (.lst [.int j, .ref x])) := (Ext.newO e1.fh hx).trans (Ext.newO (e1.fh.trans (same_new hx)) hy)
        refine ⟨a, ts, .ref y, rfl, rfl, by rw [upd_ne hay, upd_ne hax]; exact hHa, by rw [hG.len]; exact hl, ?_⟩
        refine q1 σ F1 _ (o1.chgF (fun b => if b = x then some (1 + 2 * gs.length + 1) else if b = y then some (1 + 2 * gs.length) else none) ee (fun b n hb => ?_) hd h1 fun O hO hf q => ?_)
        · split at hb
          · rename_i e
            subst e
            exact ⟨hx, hx', _, by rw [upd_ne hyx.symm, upd_same], rfl⟩
          · split at hb
            · rename_i e
              subst e
              exact ⟨hy1, none_of e1.fh hy1, _, upd_same, rfl⟩
            · cases hb
        · obtain ⟨p, ts', z1, z2, z3, z4⟩ := q
          cases z1
          rw [upd_ne hay, upd_ne hax, hHa] at z3
          cases z3
          refine ⟨a, 0, .lst (ts ++ [.ref y]), z2, rfl, rfl, a, ts ++ [.ref y], rfl, .inl z2, upd_same, ?_⟩
          have z5 := (z4.pos (Nat.le_refl 1)).frame (H' := upd (upd (upd H1 x (.lst [])) y (.lst [.int j, .ref x])) a (.lst (ts ++ [.ref y]))) (O' := fun b m => O b m ∨ (if b = x then some (1 + 2 * gs.length + 1) else if b = y then some (1 + 2 * gs.length) else none) = some m) (fun b n hb => by
            have : b ≠ a := fun z => by subst z; have := hf b _ _ hb.1 z2; omega
            rw [upd_ne this]) (keep_upd (by rw [upd_ne hay, upd_ne hax]; exact hHa) rfl) (fun b n hb => .inl hb.1)
          refine z5.snoc (t := y) (q := x) ?_ (fun _ => .inr (by rw [if_neg hyx, if_pos rfl])) (.inr (by rw [if_pos rfl])) ?_
          · rw [upd_ne hay.symm, upd_same]; rfl
          · rw [upd_ne hax.symm, upd_ne hyx.symm, upd_same]
      · rw [if_neg hl] at q1; exact q1.elim
    | _ => exact q1.elim
  · exact q.elim
/-- found[-1][1].append(x) -/
def isI : D → Int → Bool
  | .int i, z => decide (i = z)
  | _, _ => false
theorem isI_is {d : D} {z : Int} (h : isI d z = true) : d = .int z := by
  cases d <;> first | (cases of_decide_eq_true h; rfl) | cases h
def mGApp (i : Nat) (m1 m2 m : List Sl → R D) (S : List Sl) : SO := match S[i]? with
  | some (.og b gs) => if gs.isEmpty = true then .bad else toS (m1 S) S fun d1 => if isI d1 (-1) = true then toS (m2 S) S fun d2 => if isI d2 1 = true then toS (m S) S fun d => match d with
      | .int x => match lastG gs x with
        | some gs' => .nx (S.set i (.og b gs'))
        | none => .bad
      | _ => .bad
    else .bad else .bad
  | _ => .bad
theorem atI_ng {α : Type} {xs : List α} {i : Int} (h0 : i < 0) (h : -(xs.length : Int) ≤ i) : atI xs i = some (xs[(i + xs.length).toNat]'(by omega)) := by
  unfold atI ixN
  rw [if_neg (by omega), if_pos h]
  exact List.getElem?_eq_getElem _

/-! ### isinstance -/
theorem atI_end {α : Type} {xs : List α} : atI xs (-1) = xs.getLast? := by
  by_cases h : xs = []
  · subst h; rfl
  · have hl : 1 ≤ xs.length := List.length_pos_iff.mpr h
    rw [atI_ng (by decide) (by omega), List.getLast?_eq_getElem?, List.getElem?_eq_getElem (by omega)]
    congr 1
    congr 1
    omega
theorem ds_gapp {i : Nat} {b1 b2 : Expr} {m1 m2 m : List Sl → R D} (ho : PE X o (tVar i)) (h1 : DR C X W b1 m1) (h2 : DR C X W b2 m2) (he : DR C X W e m) (n1 : PlainIx b1) (n2 : PlainIx b2)
    (hbase : attributeBase (.Subscript (.Subscript o b1 p1) b2 p2) "append" X.env (eval (.Subscript (.Subscript o b1 p1) b2 p2) X.env) = eval (.Subscript (.Subscript o b1 p1) b2 p2) X.env := by rfl)
    (hfew : ((backTo cpos (starEach (e :: []) X.env)).all (fun x => !x.1) && (backToKw cpos (keywordEach [] X.env)).all (fun x => x.1.isSome) && decide ((e :: []).length + ([] : List Keyword).length + (if ([] : List Keyword).isEmpty then 0 else 1) < 30)) = true := by rfl)
    (hline : (apos.endLine == cpos.line) = true := by rfl) (hs : starEach (e :: []) X.env = (false, eval e X.env) :: starEach [] X.env := by rfl) (hplain : (backTo cpos (starEach [] X.env)).any (·.1) = false := by rfl)
    (hsw : swapsWith (.Call (.Attribute (.Subscript (.Subscript o b1 p1) b2 p2) "append" apos) (e :: []) [] cpos) none pos.line X.env = pure false := by rfl) :
    DS C X W (.Expr (.Call (.Attribute (.Subscript (.Subscript o b1 p1) b2 p2) "append" apos) (e :: []) [] cpos) pos) (mGApp i m1 m2 m) := by
  obtain ⟨t1, q1, k1⟩ := h1.ex
  obtain ⟨t2, q2, k2⟩ := h2.ex
  obtain ⟨t, p, k⟩ := he.ex
  refine .of ⟨_, ps_expr (pe_bm PySem.F.plainAttrs_list PySem.F.slot_list_append PySem.F.type_list_append mt_append (pe_ix ix_seq (pe_ix ix_seq ho q1 n1) q2 n2) (pa_cons p pa_nil hs) hbase hfew hline hs hplain) hsw, fun F0 H0 F H σ S ok E q => ?_⟩
  unfold mGApp at q
  split at q
  · rename_i b gs hd
    by_cases c0 : gs.isEmpty = true
    · rw [if_pos c0] at q; exact q.elim
    rw [if_neg c0] at q
    obtain ⟨a, ts, e1, hF, hH, O, hO, hOa, hG⟩ := ok.ogAt hd
    obtain ⟨tt, qq, kk, hs, mm, z1, z2, z3, z4, z5, z6⟩ := hG.lastU hO (fun e => c0 (by rw [e]; rfl))
    refine ⟨_, e1, ?_⟩
    refine k1 _ _ _ _ _ _ ok _ (PostV.ofS ok q fun d1 v1 F1 H1 x1 o1 r1 q => ?_)
    by_cases c1 : isI d1 (-1) = true
    · rw [if_pos c1] at q
      cases isI_is c1
      cases r1.isInt
      refine .inl ⟨a, ts, -1, .ref tt, rfl, rfl, SqL.of (x1.hh _ _ hH), by rw [atI_end]; exact z1, ?_⟩
      refine k2 _ _ _ _ _ _ o1 _ (PostV.ofS o1 q fun d2 v2 F2 H2 x2 o2 r2 q => ?_)
      by_cases c2 : isI d2 1 = true
      · rw [if_pos c2] at q
        cases isI_is c2
        cases r2.isInt
        have y2 : H2 tt = some (if b then .lst [.int kk, .ref qq] else .tup [.int kk, .ref qq]) := x2.hh _ _ (x1.hh _ _ z2)
        have y5 : H2 qq = some (.lst (hs.map V.int)) := x2.hh _ _ (x1.hh _ _ z5)
        have fin : t σ H2 (fun x H3 => rAppend (.ref qq) [x] H3 fun _ H4 => E.nx σ H4) := by
          refine k _ _ _ _ _ _ o2 _ (PostV.ofS o2 q fun d v F3 H3 x3 o3 r3 q => ?_)
          cases d with
          | int z =>
            cases r3.isInt
            simp only at q
            cases hg : lastG gs z with
            | none => rw [hg] at q; exact q.elim
            | some gs' =>
              rw [hg] at q
              simp only at q
              have w5 : H3 qq = some (.lst (hs.map V.int)) := x3.hh _ _ y5
              have wt := x3.hh _ _ y2
              have wa : H3 a = some (.lst ts) := x3.hh _ _ (x2.hh _ _ (x1.hh _ _ hH))
              have hln : hs.length < sizeLine := (z6 z gs' hg).1
              refine ⟨qq, hs.map V.int, .int z, rfl, rfl, w5, by rw [List.length_map]; exact hln, ?_⟩
              refine q σ F3 _ (o3.chgF (fun _ => none) (Ext.refl o3.sub) (fun _ _ h => nomatch h) hd e1 fun O' hO' hf' sl => ?_)
              obtain ⟨p, ts', s1, s2, s3, s4⟩ := sl
              cases s1
              rw [wa] at s3
              cases s3
              obtain ⟨t', q', k', hs', m', r1, r2, r3, r4, r5, r6⟩ := s4.lastU hf' (fun e => c0 (by rw [e]; rfl))
              rw [z1] at r1
              cases r1
              rw [wt] at r2
              have eq : q' = qq := by cases b <;> (cases r2; rfl)
              subst eq
              rw [w5] at r5
              have eh : hs' = hs := by
                have : hs.map V.int = hs'.map V.int := by injection r5 with e; injection e
                have inj : ∀ (x y : List Int), x.map V.int = y.map V.int → x = y := by
                  intro x
                  induction x with
                  | nil => intro y h; cases y with | nil => rfl | cons _ _ => cases h
                  | cons u x ih => intro y h; cases y with | nil => cases h | cons v y => (simp only [List.map_cons, List.cons.injEq] at h; obtain ⟨h1, h2⟩ := h; injection h1 with h1; rw [h1, ih y h2])
                exact (inj _ _ this).symm
              subst eh
              have hne : a ≠ q' := fun e => by subst e; have := hf' _ _ _ s2 r4; omega
              refine ⟨q', m', .lst (hs'.map V.int ++ [.int z]), r4, rfl, rfl, a, ts, rfl, .inl s2, by rw [upd_ne hne]; exact wa, ?_⟩
              refine ((r6 z gs' hg).2 (upd H3 q' (.lst (hs'.map V.int ++ [.int z]))) (by rw [upd_same, List.map_append]; rfl) (fun c n' _ hc => upd_ne hc) (keep_upd w5 rfl)).frame (O' := fun a m => O' a m ∨ (none : Option Nat) = some m) (fun _ _ _ => rfl) (fun _ _ h _ => h) fun _ _ h => Or.inl h
          | _ => exact q.elim
        cases b with
        | true => exact .inl ⟨tt, _, 1, .ref qq, rfl, rfl, SqL.of y2, rfl, .inl ⟨rfl, _, SqL.of y5⟩, fin⟩
        | false => exact .inr (.inl ⟨tt, _, 1, .ref qq, rfl, rfl, SqT.of y2, rfl, .inl ⟨rfl, _, SqL.of y5⟩, fin⟩)
      · rw [if_neg c2] at q; exact q.elim
    · rw [if_neg c1] at q; exact q.elim
  · exact q.elim
end
end DL
/-! The data layer, part Yt: tests with a change. -/
namespace DL
open PySem L2

/-- e[k], e with a change, a tuple -/
def mIxM (m : List Sl → RS) (m2 : List Sl → R D) (S : List Sl) : RS := match m S with
  | .ok x S' => match x with
    | .tup ds => match m2 S' with
      | .ok (.int i) => match atI ds i with
        | some d => .ok d S'
        | none => .bad
      | _ => .bad
    | _ => .bad
  | .exc y S' => .exc y S'
  | .bad => .bad
/-- a test, and the slots behind it -/
inductive RB where
  | ok (b : Bool) (S : List Sl) | exc (e : Exn) (S : List Sl) | bad
def PostTM (C : CL) (K : PySem.W.Frag) (W : WX) (F0 H0 : Hp) (σ : St) (r : RB) (Q : Bool → Hp → Prop) : Prop := match r with
  | .ok b S => ∀ F H, Ok C K F0 H0 F H σ S → Q b H
  | .exc e S => ∀ F H, Ok C K F0 H0 F H σ S → Wish C W σ F H e
  | .bad => False
def cTM (C : CL) (K : PySem.W.Frag) (W : WX) (m : List Sl → RB) : TT := fun σ H Q => ∃ F0 H0 F S, Ok C K F0 H0 F H σ S ∧ PostTM C K W F0 H0 σ (m S) Q
structure DTM (C : CL) (X : Cx) (W : WX) (e : Expr) (m : List Sl → RB) : Prop where
  run : PT X e (cTM C X.K W m)
structure DWM (C : CL) (X : Cx) (W : WX) (e : Expr) (m : List Sl → RB) : Prop where
  run : PW X e (cTM C X.K W m)
def mTM (m : List Sl → RS) (S : List Sl) : RB := match m S with
  | .ok (.bl b) S' => .ok b S'
  | .exc e S' => .exc e S'
  | _ => .bad
def tAndM (ma : List Sl → R Bool) (mb : List Sl → RB) (S : List Sl) : RB := match ma S with
  | .ok true => mb S
  | .ok false => .ok false S
  | .exc e => .exc e S
  | .bad => .bad
def mIfM (t : List Sl → RB) (a b : List Sl → SO) (S : List Sl) : SO := match t S with
  | .ok true S' => a S'
  | .ok false S' => b S'
  | .exc e S' => .ex e S'
  | .bad => .bad
section
variable {C : CL} {X : Cx} {W : WX} {e e2 a b : Expr} {es : List Expr} {pos pos' p : Pos} {x : Str}
theorem DTM.of {m : List Sl → RB} (h : ∃ t, PT X e t ∧ ∀ F0 H0 F H σ S, Ok C X.K F0 H0 F H σ S → ∀ Q, PostTM C X.K W F0 H0 σ (m S) Q → t σ H Q) : DTM C X W e m := by
  obtain ⟨t, p, k⟩ := h
  exact ⟨⟨fun pins s σ H Q I ⟨F0, H0, F, S, o, q⟩ => p.run pins s σ H Q I (k F0 H0 F H σ S o Q q)⟩⟩
theorem DWM.of {m : List Sl → RB} (h : ∃ t, PW X e t ∧ ∀ F0 H0 F H σ S, Ok C X.K F0 H0 F H σ S → ∀ Q, PostTM C X.K W F0 H0 σ (m S) Q → t σ H Q) : DWM C X W e m := by
  obtain ⟨t, p, k⟩ := h
  exact ⟨⟨fun wh pins s σ H Q I ⟨F0, H0, F, S, o, q⟩ => p.run wh pins s σ H Q I (k F0 H0 F H σ S o Q q)⟩⟩
theorem dem_ix {m : List Sl → RS} {mb : List Sl → R D} (ha : DEM C X W a m) (hb : DR C X W b mb) (h1 : PlainIx b) : DEM C X W (.Subscript a b pos) (mIxM m mb) := by
  obtain ⟨tb, pb, kb⟩ := hb.ex
  refine .of ⟨_, pe_ix ix_seq ha.run pb h1, fun F0 H0 F H σ S o Q q => ⟨F0, H0, F, S, o, ?_⟩⟩
  unfold mIxM at q
  cases h : m S with
  | ok x S' =>
    rw [h] at q
    intro v F1 H1 o1 r1
    simp only at q
    cases x with
    | tup ds =>
      simp only at q
      refine kb _ _ _ _ _ _ o1 _ ?_
      cases h2 : mb S' with
      | ok y =>
        rw [h2] at q
        cases y with
        | int i =>
          simp only at q
          intro w F2 H2 e2 w2
          cases w2.isInt
          obtain ⟨p, vs, rfl, hp, ra⟩ := (Vw.of (H := H2) (r1.up e2.ff)).isTup
          cases h3 : atI ds i with
          | none => rw [h3] at q; exact q.elim
          | some d =>
            rw [h3] at q
            obtain ⟨z, hz, rz⟩ := atI_rp ra h3
            exact .inr (.inl ⟨p, vs, i, z, rfl, rfl, SqT.of (e2.fh _ _ hp), hz, q z F2 H2 (o1.up e2) rz⟩)
        | _ => exact q.elim
      | exc y => rw [h2] at q; exact q.elim
      | bad => rw [h2] at q; exact q.elim
    | _ => exact q.elim
  | exc y S' => rw [h] at q; exact fun F1 H1 o1 => q F1 H1 o1
  | bad => rw [h] at q; exact q
theorem dtm_cmp {op : CmpOp} {g : D → D → R D} {m : List Sl → RS} {mb : List Sl → R D} (og : OpD X (compareOp op) g) (he : DEM C X W e m) (hb : DR C X W e2 mb) (h1 : behindInMarks op e2 = false) : DTM C X W (.Compare e [op] [e2] pos) (mTM (mCmpM g m mb)) := by
  obtain ⟨r, hr, k⟩ := og
  obtain ⟨tb, pb, kb⟩ := hb.ex
  refine .of ⟨_, pt_cmp (pc_op hr he.run pb) h1, fun F0 H0 F H σ S o Q q => ⟨F0, H0, F, S, o, ?_⟩⟩
  unfold mTM mCmpM at q
  cases h : m S with
  | ok x S' =>
    rw [h] at q
    intro v F1 H1 o1 r1
    simp only at q
    refine kb _ _ _ _ _ _ o1 _ ?_
    cases h2 : mb S' with
    | ok y =>
      rw [h2] at q
      intro w F2 H2 e2 w2
      refine k F2 H2 x y v w _ e2.fh (.of (r1.up e2.ff)) w2 ?_
      simp only at q
      cases h3 : g x y with
      | ok z =>
        rw [h3] at q
        intro u F3 H3 e3 r3
        simp only at q
        cases z with
        | bl c => cases r3; exact ⟨c, rfl, q F3 H3 ((o1.up e2).up e3)⟩
        | _ => exact q.elim
      | exc z => trivial
      | bad => rw [h3] at q; exact q
    | exc y => rw [h2] at q; exact q.elim
    | bad => rw [h2] at q; exact q.elim
  | exc y S' => rw [h] at q; exact fun F1 H1 o1 => q F1 H1 o1
  | bad => rw [h] at q; exact q
theorem dwm_and1 {m : List Sl → RB} (ha : DTM C X W a m) : DWM C X W (.BoolOp .And [a] pos) m := ⟨pw_and1 ha.run⟩
theorem dwm_and {ma : List Sl → R Bool} {mb : List Sl → RB} {rest : List Expr} (ha : DT C X W a ma) (hb : DWM C X W (.BoolOp .And (b :: rest) pos) mb) : DWM C X W (.BoolOp .And (a :: b :: rest) pos) (tAndM ma mb) := by
  obtain ⟨ta, pa, ka⟩ := ha.ex
  refine .of ⟨_, pw_and pa hb.run, fun F0 H0 F H σ S o Q q => ?_⟩
  refine ka _ _ _ _ _ _ o _ ?_
  unfold tAndM at q
  cases h : ma S with
  | ok c =>
    rw [h] at q
    intro F1 H1 e1
    cases c with
    | true => exact ⟨F0, H0, F1, S, o.up e1, q⟩
    | false => exact q F1 H1 (o.up e1)
  | exc y => rw [h] at q; exact q F H o
  | bad => rw [h] at q; exact q
theorem dtm_w {m : List Sl → RB} (h : DWM C X W a m) : DTM C X W a m := ⟨h.run.pt⟩
theorem ds_ifM {c : Expr} {as bs : List Stmt} {t : List Sl → RB} {a b : List Sl → SO} (hc : DTM C X W c t) (ha : DSs C X W as a) (hb : DSs C X W bs b) : DS C X W (.If c as bs pos) (mIfM t a b) := by
  refine .of ⟨_, ps_if hc.run ha.run hb.run, fun F0 H0 F H σ S o E q => ⟨F0, H0, F, S, o, ?_⟩⟩
  unfold mIfM at q
  cases h : t S with
  | ok c S' =>
    rw [h] at q
    intro F1 H1 o1
    cases c with
    | true => exact ⟨F0, H0, F1, S', o1, q⟩
    | false => exact ⟨F0, H0, F1, S', o1, q⟩
  | exc y S' => rw [h] at q; exact fun F1 H1 o1 => q σ F1 H1 o1
  | bad => rw [h] at q; exact q
end
end DL
/-! The data layer, part R: things (instances of the program's own classes), their fields. -/
namespace DL
open PySem L2
open PyProof.Rows (envOfC)

/-! ### fields by their names -/
def putL (f : Str) (l : Fl) : List (Str × Fl) → List (Str × Fl)
  | [] => [(f, l)]
  | (g, x) :: r => if g = f then (g, l) :: r else (g, x) :: putL f l r
def fIx (f : Str) : List (Str × Fl) → Nat → Nat
  | [], n => n
  | (g, _) :: r, n => if g = f then n else fIx f r (n + 1)
def getL (f : Str) : List (Str × Fl) → Option Fl
  | [] => none
  | (g, x) :: r => if g = f then some x else getL f r
theorem fIx_ge (f : Str) : ∀ (fs : List (Str × Fl)) (n : Nat), n ≤ fIx f fs n
  | [], n => Nat.le_refl _
  | (g, _) :: r, n => by
    unfold fIx
    split
    · exact Nat.le_refl _
    · have := fIx_ge f r (n + 1); omega
theorem look_cons (f g : Str) (v : V) (r : List (Str × V)) : ((g, v) :: r).lookup f = if g = f then some v else r.lookup f := by
  rw [List.lookup_cons]
  by_cases c : g = f
  · subst c; simp
  · have : (f == g) = false := by simpa using fun z => c z.symm
    rw [if_neg c, this]
theorem putF_same {f : Str} {v : V} : ∀ {vs : List (Str × V)}, vs.lookup f = some v → putF f v vs = vs
  | [], h => by cases h
  | (g, x) :: r, h => by
    rw [look_cons] at h
    unfold putF
    by_cases c : g = f
    · rw [if_pos c] at h ⊢; cases h; rfl
    · rw [if_neg c] at h ⊢; rw [putF_same h]
theorem putL_same {f : Str} {l : Fl} : ∀ {fs : List (Str × Fl)}, getL f fs = some l → putL f l fs = fs
  | [], h => by cases h
  | (g, x) :: r, h => by
    unfold getL at h
    unfold putL
    by_cases c : g = f
    · rw [if_pos c] at h ⊢; cases h; rfl
    · rw [if_neg c] at h ⊢; rw [putL_same h]
section
variable {K : PySem.W.Frag} {F H F' H' : Hp} {O O' : Addr → Nat → Prop}
theorem FlsR.look {n : Nat} {vs : List (Str × V)} {fs : List (Str × Fl)} (h : FlsR K F H O n vs fs) : ∀ {f : Str} {l : Fl}, getL f fs = some l → ∃ v, vs.lookup f = some v ∧ FlR K F H (fun a => O a (fIx f fs n)) v l := by
  induction h with
  | nil => intro f l h; cases h
  | @cons n g v l vs fs h1 _ ih =>
    intro f l' hl
    unfold getL at hl
    rw [look_cons]
    unfold fIx
    by_cases c : g = f
    · rw [if_pos c] at hl ⊢
      cases hl
      rw [if_pos c]
      exact ⟨v, rfl, h1⟩
    · rw [if_neg c] at hl ⊢
      rw [if_neg c]
      exact ih hl
theorem FlsR.none {n : Nat} {vs : List (Str × V)} {fs : List (Str × Fl)} (h : FlsR K F H O n vs fs) : ∀ {f : Str}, getL f fs = none → vs.lookup f = none := by
  induction h with
  | nil => intro f _; rfl
  | @cons n g v l vs fs h1 _ ih =>
    intro f hl
    unfold getL at hl
    rw [look_cons]
    by_cases c : g = f
    · rw [if_pos c] at hl; cases hl
    · rw [if_neg c] at hl ⊢; exact ih hl
theorem FlsR.len {n : Nat} {vs : List (Str × V)} {fs : List (Str × Fl)} (h : FlsR K F H O n vs fs) : vs.length = fs.length := by
  induction h with
  | nil => rfl
  | cons _ _ ih => simp [ih]
theorem FlsR.map {n : Nat} {vs : List (Str × V)} {fs : List (Str × Fl)} (h : FlsR K F H O n vs fs) : (∀ k v l, n ≤ k → FlR K F H (fun a => O a k) v l → FlR K F' H' (fun a => O' a k) v l) → FlsR K F' H' O' n vs fs := by
  induction h with
  | nil => intro _; exact .nil
  | @cons n g v l vs fs h1 _ ih =>
    intro fr
    exact .cons (fr n v l (Nat.le_refl _) h1) (ih fun k v l hk => fr k v l (by omega))
theorem FlsR.put {n : Nat} {vs : List (Str × V)} {fs : List (Str × Fl)} (h : FlsR K F H O n vs fs) {f : Str} {v' : V} {l' : Fl} : (∀ k v l, n ≤ k → k ≠ fIx f fs n → FlR K F H (fun a => O a k) v l → FlR K F' H' (fun a => O' a k) v l) → FlR K F' H' (fun a => O' a (fIx f fs n)) v' l' → FlsR K F' H' O' n (putF f v' vs) (putL f l' fs) := by
  induction h with
  | nil => intro _ new; exact .cons new .nil
  | @cons n g v l vs fs h1 h2 ih =>
    intro fr new
    unfold putF putL
    unfold fIx at fr new
    by_cases c : g = f
    · rw [if_pos c, if_pos c]
      rw [if_pos c] at fr new
      exact .cons new (h2.map fun k v l hk => fr k v l (by omega) (by omega))
    · rw [if_neg c, if_neg c]
      rw [if_neg c] at fr new
      have := fIx_ge f fs (n + 1)
      exact .cons (fr n v l (Nat.le_refl _) (by omega) h1) (ih (fun k v l hk hne => fr k v l (by omega) hne) new)
end
/-! ### a thing in a slot -/
section
variable {C : CL} {K : PySem.W.Frag} {F0 H0 F H F1 H1 H' : Hp} {σ : St} {S : List Sl}
theorem Ok.obAt {i c : Nat} {j : Option Nat} {fs : List (Str × Fl)} (o : Ok C K F0 H0 F H σ S) (h : S[i]? = some (.ob j c fs)) :
    ∃ p dx vs, σ[i]? = some (some (.ref p)) ∧ H p = some (.ins (C.cl c) dx vs) ∧ F p = none ∧ vs.length = fs.length ∧ (∀ m, getL m fs = none → vs.lookup m = none) ∧ ∀ f l, getL f fs = some l → ∃ v, vs.lookup f = some v ∧ FlR K F H (fun a => F a = none) v l := by
  obtain ⟨v, hv, _⟩ := o.at h
  obtain ⟨ow, w1, w2⟩ := o.ow
  obtain ⟨h0, p, dx, vs, h1, h2, h3, h4⟩ := w2 i _ v h hv
  subst h1
  refine ⟨p, dx, vs, hv, h3, (w1 p _ h2).2.1, h4.len, fun m => h4.none, fun f l hl => ?_⟩
  obtain ⟨v, z1, z2⟩ := h4.look hl
  exact ⟨v, z1, z2.frame (Same.upR (Same.refl _)) (fun _ _ => rfl) fun a ha => (w1 a _ ha).2.1⟩
theorem Ok.fmut {i c : Nat} {j : Option Nat} {fs : List (Str × Fl)} {f : Str} {l l' : Fl} {p dx q : Addr} {vs : List (Str × V)} {u : HO} (o : Ok C K F0 H0 F H σ S) (h : S[i]? = some (.ob j c fs)) (hv : σ[i]? = some (some (.ref p))) (hp : H p = some (.ins (C.cl c) dx vs)) (hl : getL f fs = some l) (hq : vs.lookup f = some (.ref q)) (hu : ownable u = true)
    (hk : (∃ ds, l = .ol ds) ∨ ∃ es, l = .od es) (new : ∀ P : Addr → Prop, P q → FlR K F (upd H q u) P (.ref q) l') : Ok C K F0 H0 F (upd H q u) σ (S.set i (.ob j c (putL f l' fs))) := by
  refine o.chgF (fun _ => none) (Ext.refl o.sub) (fun _ _ h => nomatch h) h hv fun O hO fn s => ?_
  obtain ⟨h0, p', dx', vs', e1, e2, e3, e4⟩ := s
  cases e1
  rw [hp] at e3
  cases e3
  obtain ⟨v, z1, z2⟩ := e4.look hl
  rw [hq] at z1
  cases z1
  have hOq : O q (fIx f fs 1) := by
    rcases hk with ⟨ds, rfl⟩ | ⟨es, rfl⟩
    · obtain ⟨q', ws, y1, y2, _⟩ := z2; cases y1; exact y2
    · obtain ⟨q', ws, y1, y2, _⟩ := z2; cases y1; exact y2
  have hge := fIx_ge f fs 1
  have hpq : p ≠ q := fun z => by subst z; have := fn _ _ _ e2 hOq; omega
  refine ⟨q, _, u, hOq, hu, rfl, h0, p, dx, vs, rfl, .inl e2, by rw [upd_ne hpq]; exact hp, ?_⟩
  have := e4.put (f := f) (v' := .ref q) (l' := l') (F' := F) (H' := upd H q u) (O' := fun a m => O a m ∨ (fun _ => none : Addr → Option Nat) a = some m) (fun k v l _ hne hf => hf.frame (Same.upR (Same.refl _)) (fun a ha => by
    have : a ≠ q := fun z => by subst z; exact hne (fn _ _ _ ha hOq)
    rw [upd_ne this]) fun _ ha => .inl ha) (new _ (.inl hOq))
  rw [putF_same hq] at this
  exact this
theorem Ok.fput {i c : Nat} {j : Option Nat} {fs : List (Str × Fl)} {f : Str} {l' : Fl} {v' : V} {p dx : Addr} {vs : List (Str × V)} (N : Addr → Option Nat) (o : Ok C K F0 H0 F H σ S) (e : Ext F H F1 H1) (hN : ∀ a n, N a = some n → H a = none ∧ F1 a = none ∧ ∃ u, H1 a = some u ∧ ownable u = true) (h : S[i]? = some (.ob j c fs)) (hv : σ[i]? = some (some (.ref p))) (hp : H1 p = some (.ins (C.cl c) dx vs))
    (new : ∀ P : Addr → Prop, (∀ a, N a = some (fIx f fs 1) → P a) → (∀ a, P a → a ≠ p) → FlR K F1 (upd H1 p (.ins (C.cl c) dx (putF f v' vs))) P v' l') : Ok C K F0 H0 F1 (upd H1 p (.ins (C.cl c) dx (putF f v' vs))) σ (S.set i (.ob j c (putL f l' fs))) := by
  refine o.chgF N e hN h hv fun O hO fn s => ?_
  obtain ⟨h0, p', dx', vs', e1, e2, e3, e4⟩ := s
  cases e1
  rw [hp] at e3
  cases e3
  have hge := fIx_ge f fs 1
  have hpn : N p = none := (hO p _ e2).2.1
  refine ⟨p, 0, _, e2, rfl, rfl, h0, p, dx, putF f v' vs, rfl, .inl e2, upd_same, ?_⟩
  refine e4.put (fun k v l hk hne hf => hf.frame (Same.upR (Same.refl _)) (fun a ha => ?_) fun _ ha => .inl ha) (new _ (fun a ha => .inr ha) fun a ha z => ?_)
  · have : a ≠ p := fun z => by subst z; have := fn _ _ _ ha e2; omega
    rw [upd_ne this]
  · subst z
    rcases ha with ha | ha
    · have := fn _ _ _ ha e2; omega
    · rw [hpn] at ha; cases ha
theorem Ok.frzF {i : Nat} {s t : Sl} {v : Option V} (o : Ok C K F0 H0 F H σ S) (hs : S[i]? = some s) (hv : σ[i]? = some v)
    (k : ∀ O : Addr → Nat → Prop, (∀ a n, O a n → F a = none ∧ ∃ u, H a = some u ∧ ownable u = true) → (∀ a n m, O a n → O a m → n = m) → SlR C K F H O v s → ∃ F', Same F F' ∧ Same F' H ∧ (∀ a u, F' a = some u → F a = none → notTup u = true → ∃ n, O a n) ∧ SlR C K F' H (fun a n => O a n ∧ F' a = none) v t) : ∃ F', Same F F' ∧ Ok C K F0 H0 F' H σ (S.set i t) := by
  obtain ⟨ow, w1, w2⟩ := o.ow
  obtain ⟨F', hF, hsub, k1, k2⟩ := k _ (fun a n h => ⟨(w1 a _ h).2.1, (w1 a _ h).2.2⟩) (fun a n m z1 z2 => by rw [z1] at z2; cases z2; rfl) (w2 i s v hs hv)
  refine ⟨F', hF, ?_⟩
  have key : ∀ a x, ow a = some x → x.1 ≠ i → F' a = none := fun a x h ne => by
    cases z : F' a with
    | none => rfl
    | some u =>
      exfalso
      obtain ⟨z1, z2, w, z3, z4⟩ := w1 a x h
      have := hsub a u z
      rw [z3] at this
      cases this
      obtain ⟨n, hn⟩ := k1 a _ z z2 (own_tup z4)
      rw [h] at hn
      cases hn
      exact ne rfl
  refine ⟨hsub, o.f0.trans hF, o.h0, fun a x h n => ?_, by simp [o.len], ?_⟩
  · rw [← o.old a x h n]
    cases z : F a with
    | some u => exact hF a u z
    | none =>
      cases z2 : F' a with
      | none => rfl
      | some u =>
        exfalso
        have e1 := hsub a u z2
        rw [o.h0 a x h] at e1
        cases e1
        obtain ⟨n2, hn2⟩ := k1 a x z2 z n
        have := (w1 a _ hn2).1
        rw [h] at this; cases this
  · refine ⟨fun a => match F' a with | some _ => none | none => ow a, fun a x ha => ?_, fun j r w h1 h2 => ?_⟩
    · cases z : F' a with
      | some u => simp only [z] at ha; cases ha
      | none => simp only [z] at ha; obtain ⟨z1, z2, z3⟩ := w1 a x ha; exact ⟨z1, rfl, z3⟩
    · by_cases c : i = j
      · subst c
        have hi : i < S.length := by have := (List.getElem?_eq_some_iff.mp h1).1; simpa using this
        rw [List.getElem?_set_self hi] at h1
        cases h1
        rw [hv] at h2
        cases h2
        refine k2.frame (Same.upR (Same.refl _)) (fun _ _ _ => rfl) (fun _ _ h _ => h) fun a m h => ?_
        simp only [h.2]; exact h.1
      · rw [List.getElem?_set_ne c] at h1
        refine (w2 j r w h1 h2).frame (Same.upR hF) (fun _ _ _ => rfl) (fun _ _ h _ => h) fun a m h => ?_
        simp only [key a _ h (fun z => c z.symm)]; exact h
theorem Ok.ffrz {i c : Nat} {j : Option Nat} {fs : List (Str × Fl)} {f : Str} {l : Fl} {d : D} (o : Ok C K F0 H0 F H σ S) (h : S[i]? = some (.ob j c fs)) (hl : getL f fs = some l) (hk : (∃ ds, l = .ol ds ∧ d = .lst ds) ∨ ∃ es, l = .od es ∧ d = .dct es) :
    ∃ F', Same F F' ∧ Ok C K F0 H0 F' H σ (S.set i (.ob j c (putL f (.fz d) fs))) := by
  obtain ⟨p, dx, vs, hv, hp, hfp, _, _, hlk⟩ := o.obAt h
  refine o.frzF h hv fun O hO fn s => ?_
  obtain ⟨h0, p', dx', vs', e1, e2, e3, e4⟩ := s
  cases e1
  rw [hp] at e3
  cases e3
  obtain ⟨v, z1, z2⟩ := e4.look hl
  have hge := fIx_ge f fs 1
  have main : ∃ q u, v = .ref q ∧ O q (fIx f fs 1) ∧ H q = some u ∧ ∀ F', Same F F' → F' q = some u → Rp K F' v d := by
    rcases hk with ⟨ds, rfl, rfl⟩ | ⟨es, rfl, rfl⟩
    · obtain ⟨q, ws, y1, y2, y3, y4⟩ := z2
      exact ⟨q, _, y1, y2, y3, fun F' s e => by rw [y1]; exact .lst e (y4.up s)⟩
    · obtain ⟨q, ws, y1, y2, y3, y4⟩ := z2
      exact ⟨q, _, y1, y2, y3, fun F' s e => by rw [y1]; exact .dct (.inl e) (y4.up s)⟩
  obtain ⟨q, u, rfl, y2, y3, y4⟩ := main
  have hfq := (hO q _ y2).1
  have hs : Same F (upd F q u) := same_new hfq
  have up_ne : ∀ a, F a = none → a ≠ q → upd F q u a = none := fun a h n => by rw [upd_ne n]; exact h
  refine ⟨upd F q u, hs, fun a w e => ?_, fun a w e n _ => ?_, h0, p, dx, vs, rfl, ⟨e2, ?_⟩, hp, ?_⟩
  · by_cases c : a = q
    · subst c; rw [upd_same] at e; cases e; exact y3
    · rw [upd_ne c] at e; exact o.sub _ _ e
  · by_cases c : a = q
    · subst c; exact ⟨_, y2⟩
    · rw [upd_ne c, n] at e; cases e
  · refine up_ne p hfp fun z => ?_
    subst z
    rw [hp] at y3
    cases y3
    have := y4 (upd F p (.ins (C.cl c) dx vs)) hs upd_same
    rcases hk with ⟨ds, _, rfl⟩ | ⟨es, _, rfl⟩
    · cases this with
      | lst h1 _ => rw [upd_same] at h1; cases h1
    · cases this with
      | dct h1 _ => rcases h1 with h1 | ⟨_, h1⟩ <;> rw [upd_same] at h1 <;> cases h1
  · have := e4.put (f := f) (v' := .ref q) (l' := .fz d) (F' := upd F q u) (H' := H) (O' := fun a n => O a n ∧ upd F q u a = none) (fun k v l _ hne hf => ?_) (y4 _ hs upd_same)
    · rw [putF_same z1] at this
      exact this
    · cases l with
      | fz d => exact Rp.up hf hs
      | ol ds =>
        obtain ⟨r, ws, x1, x2, x3, x4⟩ := hf
        refine ⟨r, ws, x1, ⟨x2, up_ne r (hO r _ x2).1 fun z => ?_⟩, x3, x4.up hs⟩
        subst z
        exact hne (fn _ _ _ x2 y2)
      | od ds =>
        obtain ⟨r, ws, x1, x2, x3, x4⟩ := hf
        refine ⟨r, ws, x1, ⟨x2, up_ne r (hO r _ x2).1 fun z => ?_⟩, x3, x4.up hs⟩
        subst z
        exact hne (fn _ _ _ x2 y2)
end
end DL
/-! The data layer, part Rb: fields read and written. -/
namespace DL
open PySem L2
open PyProof.Rows (envOfC)

/-- what of the text a class has for the layer -/
structure ClsF (K : PySem.W.Frag) (C : Addr) (f : Str) : Prop where
  c : Cls K C
  n : NoAttr K C f
def flD : Fl → D
  | .fz d => d
  | .ol ds => .lst ds
  | .od es => .dct es
def getFV (i c : Nat) (f : Str) (S : List Sl) : R D := match S[i]? with
  | some (.ob _ c' fs) => if c' = c then (match getL f fs with | some l => .ok (flD l) | none => .bad) else .bad
  | _ => .bad
def getFF (i c : Nat) (f : Str) (S : List Sl) : R D := match S[i]? with
  | some (.ob _ c' fs) => if c' = c then (match getL f fs with | some (.fz d) => .ok d | _ => .bad) else .bad
  | _ => .bad
def fset (i c : Nat) (f : Str) (l : Fl) (S : List Sl) : SO := match S[i]? with
  | some (.ob j c' fs) => if c' = c ∧ fs.length < 1000 then .nx (S.set i (.ob j c (putL f l fs))) else .bad
  | _ => .bad
def mFSet (i c : Nat) (f : Str) (m : List Sl → R D) (S : List Sl) : SO := toS (m S) S fun d => fset i c f (.fz d) S
def mFSetN (i c : Nat) (f : Str) (m : List Sl → R (List D)) (S : List Sl) : SO := toSL (m S) S fun d => fset i c f (.ol d) S
def mFSetND (i c : Nat) (f : Str) (m : List Sl → R (List (Int × D))) (S : List Sl) : SO := toSL (m S) S fun d => fset i c f (.od d) S
def mFApp (i c : Nat) (f : Str) (m : List Sl → R D) (S : List Sl) : SO := match S[i]? with
  | some (.ob j c' fs) => if c' = c then (match getL f fs with
    | some (.ol ds) => toS (m S) S fun d => if ds.length < sizeLine then .nx (S.set i (.ob j c (putL f (.ol (ds ++ [d])) fs))) else .bad
    | _ => .bad) else .bad
  | _ => .bad
def mFPut (i c : Nat) (f : Str) (mk m : List Sl → R D) (S : List Sl) : SO := match S[i]? with
  | some (.ob j c' fs) => if c' = c then (match getL f fs with
    | some (.od es) => toS (m S) S fun d => toS (mk S) S fun k => match k with
      | .int k => if es.length < sizeLine then .nx (S.set i (.ob j c (putL f (.od (putD es k d)) fs))) else .bad
      | _ => .bad
    | _ => .bad) else .bad
  | _ => .bad
def mFPop (i c : Nat) (f : Str) (mk : List Sl → R D) (S : List Sl) : SO := match S[i]? with
  | some (.ob j c' fs) => if c' = c then (match getL f fs with
    | some (.od es) => toS (mk S) S fun k => match k with
      | .int k => .nx (S.set i (.ob j c (putL f (.od (dropD es k)) fs)))
      | _ => .bad
    | _ => .bad) else .bad
  | _ => .bad
def mFFrz (i : Nat) (f : Str) (S : List Sl) : SO := match S[i]? with
  | some (.ob j c fs) => match getL f fs with
    | some (.ol ds) => .nx (S.set i (.ob j c (putL f (.fz (.lst ds)) fs)))
    | some (.od es) => .nx (S.set i (.ob j c (putL f (.fz (.dct es)) fs)))
    | some (.fz _) => .nx S
    | _ => .bad
  | _ => .bad
section
variable {C : CL} {X : Cx} {W : WX} {o e ek : Expr} {f : Str} {i c : Nat} {pos pos' apos cpos np fpos : Pos} {sts : List Stmt}
theorem FlR.vw {K : PySem.W.Frag} {F H : Hp} {P : Addr → Prop} {v : V} {l : Fl} (h : FlR K F H P v l) : Vw K F H v (flD l) := by
  cases l with
  | fz d => exact .inl h
  | ol ds => obtain ⟨q, ws, h1, h2, h3, h4⟩ := h; exact .inr (.inl ⟨q, ws, ds, h1, rfl, h3, h4⟩)
  | od es => obtain ⟨q, ws, h1, h2, h3, h4⟩ := h; exact .inr (.inr ⟨q, ws, es, h1, rfl, h3, h4⟩)
/-- where a field is read -/
theorem fld_at {F0 H0 F H : Hp} {σ : St} {S : List Sl} {j : Option Nat} {fs : List (Str × Fl)} {l : Fl} {Q : VK} (hc : ClsF X.K (C.cl c) f) (ok : Ok C X.K F0 H0 F H σ S) (h : S[i]? = some (.ob j c fs)) (hl : getL f fs = some l) (k : ∀ v, FlR X.K F H (fun a => F a = none) v l → Q v H) : tFld X.K (tVar i) f σ H Q := by
  obtain ⟨p, dx, vs, h1, h2, h3, h4, h5, h6⟩ := ok.obAt h
  obtain ⟨v, z1, z2⟩ := h6 f l hl
  exact ⟨_, h1, p, C.cl c, dx, vs, v, rfl, h2, hc.c, hc.n, z1, k v z2⟩
theorem dr_fld (ho : PE X o (tVar i)) (hc : ClsF X.K (C.cl c) f) (hb : attributeBase o f X.env (eval o X.env) = eval o X.env := by rfl) : DR C X W (.Attribute o f pos) (getFV i c f) := by
  refine .of ⟨_, pe_fld ho hb, fun F0 H0 F H σ S ok Q q => ?_⟩
  unfold getFV at q
  split at q
  · rename_i j c' fs hs
    split at q
    · rename_i hcc
      subst hcc
      split at q
      · rename_i l hl
        exact fld_at hc ok hs hl fun v hv => q v F H (Ext.refl ok.sub) hv.vw
      · exact q.elim
    · exact q.elim
  · exact q.elim
theorem de_fld (ho : PE X o (tVar i)) (hc : ClsF X.K (C.cl c) f) (hb : attributeBase o f X.env (eval o X.env) = eval o X.env := by rfl) : DE C X W (.Attribute o f pos) (getFF i c f) := by
  refine .of ⟨_, pe_fld ho hb, fun F0 H0 F H σ S ok Q q => ?_⟩
  unfold getFF at q
  split at q
  · rename_i j c' fs hs
    split at q
    · rename_i hcc
      subst hcc
      split at q
      · rename_i d hl
        exact fld_at hc ok hs hl fun v hv => q v F H (Ext.refl ok.sub) hv
      · exact q.elim
    · exact q.elim
  · exact q.elim
theorem fset_nx {K : PySem.W.Frag} {F0 H0 F H F1 H1 : Hp} {σ : St} {S : List Sl} {l : Fl} {E : Ends} {v : V} (N : Addr → Option Nat) (hcf : ClsF K (C.cl c) f) (ok : Ok C K F0 H0 F H σ S) (e : Ext F H F1 H1) (hN : ∀ a n, N a = some n → H a = none ∧ F1 a = none ∧ ∃ u, H1 a = some u ∧ ownable u = true)
    (hm : ∀ (j : Option Nat) (fs : List (Str × Fl)), S[i]? = some (.ob j c fs) → ∀ (p : Addr) (u : HO), H1 p ≠ none → ∀ P : Addr → Prop, (∀ a, N a = some (fIx f fs 1) → P a) → (∀ a, P a → a ≠ p) → FlR K F1 (upd H1 p u) P v l) (q : PostS C K W F0 H0 (fset i c f l S) E) :
    ∃ a C' dx fs, tVar i σ H1 (fun x H2 => x = .ref a ∧ H2 a = some (.ins C' dx fs) ∧ Cls K C' ∧ NoAttr K C' f ∧ fs.length < 1000 ∧ E.nx σ (upd H2 a (.ins C' dx (putF f v fs)))) := by
  unfold fset at q
  split at q
  · rename_i j c' fs hs
    split at q
    · rename_i hcc
      obtain ⟨hcc, hln⟩ := hcc
      subst hcc
      obtain ⟨p, dx, vs, h1, h2, h3, h4, h5, h6⟩ := ok.obAt hs
      have h2' : H1 p = some (.ins (C.cl c') dx vs) := e.hh _ _ h2
      refine ⟨p, C.cl c', dx, vs, _, h1, rfl, h2', hcf.c, hcf.n, by omega, ?_⟩
      exact q σ F1 _ (ok.fput N e hN hs h1 h2' fun P hP hne => hm j fs hs p _ (by rw [h2']; simp) P hP hne)
    · exact q.elim
  · exact q.elim
theorem ds_fset {m : List Sl → R D} (ho : PE X o (tVar i)) (hc : ClsF X.K (C.cl c) f) (he : DE C X W e m) (hs : swapsWith e (some (.Attribute o f pos')) pos.line X.env = pure false := by rfl) : DS C X W (.Assign [.Attribute o f pos'] e pos) (mFSet i c f m) := by
  obtain ⟨t, p, k⟩ := he.ex
  refine .of ⟨_, ps_fld ho p hs, fun F0 H0 F H σ S ok E q => ?_⟩
  refine k _ _ _ _ _ _ ok _ (Post.ofS ok q fun d v F1 H1 e1 o1 r1 q1 => ?_)
  obtain ⟨a, C', dx, fs, x, h1, h2, h3⟩ := fset_nx (v := v) (l := .fz d) (fun _ => none) hc ok e1 (fun _ _ h => nomatch h) (fun j fs hs p u hp P _ _ => r1) q1
  exact ⟨x, h1, a, C', dx, fs, h2, h3⟩
theorem ds_fsetN {m : List Sl → R (List D)} (ho : PE X o (tVar i)) (hc : ClsF X.K (C.cl c) f) (he : DN C X W e m) (hs : swapsWith e (some (.Attribute o f pos')) pos.line X.env = pure false := by rfl) : DS C X W (.Assign [.Attribute o f pos'] e pos) (mFSetN i c f m) := by
  obtain ⟨t, p, k⟩ := he.ex
  refine .of ⟨_, ps_fld ho p hs, fun F0 H0 F H σ S ok E q => ?_⟩
  refine k _ _ _ _ _ _ ok _ (PostN.ofS ok q fun ds b ws F1 H1 e1 o1 hb0 hbf hb ra q1 => ?_)
  obtain ⟨ix, hix⟩ : ∃ ix, ∀ j fs, S[i]? = some (.ob j c fs) → fIx f fs 1 = ix := by
    cases hsi : S[i]? with
    | none => exact ⟨0, fun j fs h => nomatch h⟩
    | some s => cases s with
      | ob j c' fs => exact ⟨fIx f fs 1, fun j2 fs2 h => by cases h; rfl⟩
      | _ => exact ⟨0, fun j fs h => nomatch h⟩
  obtain ⟨a, C', dx, fs, x, h1, h2, h3⟩ := fset_nx (v := .ref b) (fun a => if a = b then some ix else none) hc ok e1 (fun a n h => by
    by_cases z : a = b
    · subst z; exact ⟨hb0, hbf, _, hb, rfl⟩
    · rw [if_neg z] at h; cases h) (fun j fs hs p u hp P hP hne => by
    have hPb : P b := hP b (by rw [if_pos rfl, hix j fs hs])
    exact ⟨b, ws, rfl, hPb, by rw [upd_ne (hne b hPb)]; exact hb, ra⟩) q1
  exact ⟨x, h1, a, C', dx, fs, h2, h3⟩
theorem ds_fsetND {m : List Sl → R (List (Int × D))} (ho : PE X o (tVar i)) (hc : ClsF X.K (C.cl c) f) (he : DND C X W e m) (hs : swapsWith e (some (.Attribute o f pos')) pos.line X.env = pure false := by rfl) : DS C X W (.Assign [.Attribute o f pos'] e pos) (mFSetND i c f m) := by
  obtain ⟨t, p, k⟩ := he.ex
  refine .of ⟨_, ps_fld ho p hs, fun F0 H0 F H σ S ok E q => ?_⟩
  refine k _ _ _ _ _ _ ok _ (PostND.ofS ok q fun ds b ws F1 H1 e1 o1 hb0 hbf hb ra q1 => ?_)
  obtain ⟨ix, hix⟩ : ∃ ix, ∀ j fs, S[i]? = some (.ob j c fs) → fIx f fs 1 = ix := by
    cases hsi : S[i]? with
    | none => exact ⟨0, fun j fs h => nomatch h⟩
    | some s => cases s with
      | ob j c' fs => exact ⟨fIx f fs 1, fun j2 fs2 h => by cases h; rfl⟩
      | _ => exact ⟨0, fun j fs h => nomatch h⟩
  obtain ⟨a, C', dx, fs, x, h1, h2, h3⟩ := fset_nx (v := .ref b) (fun a => if a = b then some ix else none) hc ok e1 (fun a n h => by
    by_cases z : a = b
    · subst z; exact ⟨hb0, hbf, _, hb, rfl⟩
    · rw [if_neg z] at h; cases h) (fun j fs hs p u hp P hP hne => by
    have hPb : P b := hP b (by rw [if_pos rfl, hix j fs hs])
    exact ⟨b, ws, rfl, hPb, by rw [upd_ne (hne b hPb)]; exact hb, ra⟩) q1
  exact ⟨x, h1, a, C', dx, fs, h2, h3⟩
/-- o.f.append(e) -/
theorem ds_fapp {m : List Sl → R D} (ho : PE X o (tVar i)) (hc : ClsF X.K (C.cl c) f) (he : DE C X W e m) (hb : attributeBase o f X.env (eval o X.env) = eval o X.env := by rfl) (hbase : attributeBase (.Attribute o f fpos) "append" X.env (eval (.Attribute o f fpos) X.env) = eval (.Attribute o f fpos) X.env := by rfl)
    (hfew : ((backTo cpos (starEach (e :: []) X.env)).all (fun x => !x.1) && (backToKw cpos (keywordEach [] X.env)).all (fun x => x.1.isSome) && decide ((e :: []).length + ([] : List Keyword).length + (if ([] : List Keyword).isEmpty then 0 else 1) < 30)) = true := by rfl)
    (hline : (apos.endLine == cpos.line) = true := by rfl) (hs : starEach (e :: []) X.env = (false, eval e X.env) :: starEach [] X.env := by rfl) (hplain : (backTo cpos (starEach [] X.env)).any (·.1) = false := by rfl)
    (hsw : swapsWith (.Call (.Attribute (.Attribute o f fpos) "append" apos) (e :: []) [] cpos) none pos.line X.env = pure false := by rfl) : DS C X W (.Expr (.Call (.Attribute (.Attribute o f fpos) "append" apos) (e :: []) [] cpos) pos) (mFApp i c f m) := by
  obtain ⟨t, p, k⟩ := he.ex
  refine .of ⟨_, ps_expr (pe_bm PySem.F.plainAttrs_list PySem.F.slot_list_append PySem.F.type_list_append mt_append (pe_fld ho hb) (pa_cons p pa_nil hs) hbase hfew hline hs hplain) hsw, fun F0 H0 F H σ S ok E q => ?_⟩
  unfold mFApp at q
  split at q
  · rename_i j c' fs hsi
    split at q
    · rename_i hcc
      subst hcc
      split at q
      · rename_i ds hl
        obtain ⟨p0, dx, vs, h1, h2, h3, h4, h5, h6⟩ := ok.obAt hsi
        obtain ⟨v, z1, a, ws, rfl, z2, z3, z4⟩ := h6 f _ hl
        refine ⟨_, h1, p0, C.cl c', dx, vs, _, rfl, h2, hc.c, hc.n, z1, .inl ⟨rfl, ws, SqL.of z3⟩, ?_⟩
        refine k _ _ _ _ _ _ ok _ (Post.ofS ok q fun d v F1 H1 e1 o1 r1 q1 => ?_)
        split at q1
        · rename_i hln
          have h6' : H1 a = some (.lst ws) := e1.hh _ _ z3
          have h7 : RpA X.K F1 ws ds := z4.up e1.ff
          refine ⟨a, ws, v, rfl, rfl, h6', by rw [h7.len]; exact hln, ?_⟩
          exact q1 σ F1 _ (o1.fmut hsi h1 (e1.hh _ _ h2) hl z1 rfl (.inl ⟨_, rfl⟩) fun P hP => ⟨a, ws ++ [v], rfl, hP, upd_same, h7.app (.one r1)⟩)
        · exact q1.elim
      · exact q.elim
    · exact q.elim
  · exact q.elim
/-- o.f[k] = e -/
theorem ds_fput {mk m : List Sl → R D} (hu : X.A.units + 1 < cLine) (ho : PE X o (tVar i)) (hc : ClsF X.K (C.cl c) f) (hk : DR C X W ek mk) (he : DE C X W e m) (hb : attributeBase o f X.env (eval o X.env) = eval o X.env := by rfl) (hs : swapsWith e (some (.Subscript (.Attribute o f fpos) ek pos')) pos.line X.env = pure false := by rfl) :
    DS C X W (.Assign [.Subscript (.Attribute o f fpos) ek pos'] e pos) (mFPut i c f mk m) := by
  obtain ⟨t, p, k⟩ := he.ex
  obtain ⟨tk, pk, kk⟩ := hk.ex
  refine .of ⟨_, ps_dput hu (pe_fld ho hb) pk p hs, fun F0 H0 F H σ S ok E q => ?_⟩
  unfold mFPut at q
  split at q
  · rename_i j c' fs hsi
    split at q
    · rename_i hcc
      subst hcc
      split at q
      · rename_i es hl
        refine k _ _ _ _ _ _ ok _ (Post.ofS ok q fun d v F1 H1 e1 o1 r1 q1 => ?_)
        obtain ⟨p0, dx, vs, h1, h2, h3, h4, h5, h6⟩ := o1.obAt hsi
        obtain ⟨w, z1, a, ws, rfl, z2, z3, z4⟩ := h6 f _ hl
        refine ⟨_, h1, p0, C.cl c', dx, vs, _, rfl, h2, hc.c, hc.n, z1, ?_⟩
        refine kk _ _ _ _ _ _ o1 _ (PostV.ofS o1 q1 fun y w F2 H2 e2 o2 w2 q2 => ?_)
        cases y with
        | int y =>
          cases w2.isInt
          simp only at q2
          split at q2
          · rename_i hln
            have h6' : H2 a = some (.dK ws) := e2.hh _ _ z3
            have h7 : RpK X.K F2 ws es := z4.up e2.ff
            refine ⟨a, _, rfl, .inl ⟨ws, .inl y, h6', rfl, by rw [h7.len]; exact hln, rfl⟩, ?_⟩
            exact q2 σ F2 _ (o2.fmut hsi h1 (e2.hh _ _ h2) hl z1 rfl (.inr ⟨_, rfl⟩) fun P hP => ⟨a, _, rfl, hP, upd_same, putK_rp (r1.up e2.ff) h7⟩)
          · exact q2.elim
        | _ => exact q2.elim
      · exact q.elim
    · exact q.elim
  · exact q.elim
theorem set_same {S : List Sl} {i : Nat} {s : Sl} (h : S[i]? = some s) : S.set i s = S := by
  refine List.ext_getElem (by simp) fun j h1 h2 => ?_
  by_cases e : i = j
  · subst e
    rw [List.getElem_set_self]
    exact ((List.getElem?_eq_some_iff.mp h).2).symm
  · rw [List.getElem_set_ne e]
/-- o.f.pop(k, None) -/
theorem ds_fpop {j : Nat} {mk : List Sl → R D} (ho : PE X o (tVar i)) (hc : ClsF X.K (C.cl c) f) (hk : DR C X W ek mk) (m : M2 X (.Attribute o f fpos) "pop" apos ek (.Constant .none j np) cpos) (hb : attributeBase o f X.env (eval o X.env) = eval o X.env := by rfl)
    (hsw : swapsWith (.Call (.Attribute (.Attribute o f fpos) "pop" apos) [ek, .Constant .none j np] [] cpos) none pos.line X.env = pure false := by rfl) : DS C X W (.Expr (.Call (.Attribute (.Attribute o f fpos) "pop" apos) [ek, .Constant .none j np] [] cpos) pos) (mFPop i c f mk) := by
  obtain ⟨tk, pk, kk⟩ := hk.ex
  refine .of ⟨_, ps_expr (pe_dpop2 (pe_fld ho hb) pk pe_non m) hsw, fun F0 H0 F H σ S ok E q => ?_⟩
  unfold mFPop at q
  split at q
  · rename_i j c' fs hsi
    split at q
    · rename_i hcc
      subst hcc
      split at q
      · rename_i es hl
        obtain ⟨p0, dx, vs, h1, h2, h3, h4, h5, h6⟩ := ok.obAt hsi
        obtain ⟨w, z1, a, ws, rfl, z2, z3, z4⟩ := h6 f _ hl
        refine ⟨_, h1, p0, C.cl c', dx, vs, _, rfl, h2, hc.c, hc.n, z1, a, rfl, .inl ⟨ws, .inl z3⟩, ?_⟩
        refine kk _ _ _ _ _ _ ok _ (PostV.ofS ok q fun y w F1 H1 e1 o1 w1 q1 => ?_)
        cases y with
        | int k =>
          cases w1.isInt
          have h6' : H1 a = some (.dK ws) := e1.hh _ _ z3
          have h7 : RpK X.K F1 ws es := z4.up e1.ff
          refine ⟨ws, .inl k, h6', rfl, fun v _ => ?_, fun hn => ?_⟩
          · exact q1 σ F1 _ (o1.fmut hsi h1 (e1.hh _ _ h2) hl z1 rfl (.inr ⟨_, rfl⟩) fun P hP => ⟨a, _, rfl, hP, upd_same, dropK_rp h7⟩)
          · have : keyD es k = none := by
              rcases valV_keyD k h7 with ⟨_, z⟩ | ⟨v, d, z1, _, _⟩
              · exact z
              · rw [hn] at z1; cases z1
            simp only [dropD_no this, putL_same hl, set_same hsi] at q1
            exact q1 σ F1 H1 o1
        | _ => exact q1.elim
      · exact q.elim
    · exact q.elim
  · exact q.elim
/-- a field is known to all from now on -/
theorem dss_ffrz {b : List Sl → SO} (hb : DSs C X W sts b) : DSs C X W sts (mSeq (mFFrz i f) b) := by
  refine .of ⟨_, hb.run, fun F0 H0 F H σ S ok E q => ?_⟩
  unfold mSeq mFFrz at q
  split at q
  · rename_i S' h
    split at h
    · rename_i j c fs hsi
      split at h
      · rename_i ds hl
        cases h
        obtain ⟨F', _, o'⟩ := ok.ffrz hsi hl (.inl ⟨ds, rfl, rfl⟩)
        exact ⟨F0, H0, F', _, o', q⟩
      · rename_i es hl
        cases h
        obtain ⟨F', _, o'⟩ := ok.ffrz hsi hl (.inr ⟨es, rfl, rfl⟩)
        exact ⟨F0, H0, F', _, o', q⟩
      · cases h
        exact ⟨F0, H0, F, S, ok, q⟩
      · cases h
    · cases h
  · rename_i r h
    exfalso
    revert h q
    split
    · split <;> intro h q <;> first | exact h _ rfl | exact q
    · intro h q; exact q
end
end DL
/-! The data layer, part Rc: methods called, things made, loops over a thing's list. -/
namespace DL
open PySem L2
open PyProof.Rows (envOfC)

/-! ### o.m(..), with ways out at the slots -/
section
variable {X : Cx} {CX : CXT} {k : Nat} {f C : Addr} {fd : FuncData} {ps : List Str} {sp : Sp} {E : St → XK} {x m : Str} {p pos apos : Pos} {e o : Expr} {es : List Expr} {ta : TE} {t : TA}
def tMethX (C : Addr) (m : Str) (sp : Sp) (E : St → XK) (ta : TE) (t : TA) : TE := fun σ H Q => ta σ H fun x H1 => ∃ a dx fs, x = .ref a ∧ H1 a = some (.ins C dx fs) ∧ fs.lookup m = none ∧
  t σ H1 fun vs H2 => sp (x :: vs) H2 Q (E σ)
theorem pe_methX {pl : Sem Bool} (he : PE X o ta) (c : Cls X.K C) (hm : Meth X.K C m f) (F : FnOk X.prog X.w X.K X.mg X.base CX k f fd ps sp) (hr : Room k X.A) (hb : Binds X.K fd ps []) (hx : ∀ σ, PassesAt CX X σ (E σ)) (ha : PA X (e :: es) t)
    (hst : starEach (e :: es) X.env = (false, eval e X.env) :: starEach es X.env := by rfl) (hpl : (backTo pos (starEach es X.env)).any (·.1) = false := by rfl)
    (ht : eval (.Call (.Attribute o m apos) (e :: es) [] pos) X.env = (do
      let ov ← eval o X.env
      standAt apos.atName
      let (f, first) ← holding [ov] (getMethod ov m pl)
      callWith pos f first (backTo pos (starEach (e :: es) X.env)) (backToKw pos (keywordEach [] X.env))) := by rfl) :
    PE X (.Call (.Attribute o m apos) (e :: es) [] pos) (tMethX C m sp E ta t) := by
  refine ⟨fun pins s σ H Q I h => ?_⟩
  refine PySem.W.methodCall_KW (pl := pl) (thn (he.run pins s σ H _ I h) fun u s1 ⟨x, H1, I1, rx, a, dx, fs, ex, ea, l, q⟩ => ?_) ht
  subst ex
  obtain rfl : u = Value.ref a := rx
  refine getmeth_ok I1 ea c hm l ?_
  refine PySem.W.callWith_K (first := [.ref a]) (h₀ := X.base) I1.ok.mod.kin hm.kp (thn (ha.run pos pins s1 σ H1 _ I1 q) fun us s2 ⟨vs, H2, I2, r, q2⟩ => ⟨I2.kIn, ?_⟩) hst hpl
  exact run_fnS (us := .ref a :: us) (vs := .ref a :: vs) F hr hb (hx σ) I2 (.cons rfl r) q2
theorem pe_methX0 {pl : Sem Bool} (he : PE X o ta) (c : Cls X.K C) (hm : Meth X.K C m f) (F : FnOk X.prog X.w X.K X.mg X.base CX k f fd ps sp) (hr : Room k X.A) (hb : Binds X.K fd ps []) (hx : ∀ σ, PassesAt CX X σ (E σ))
    (ht : eval (.Call (.Attribute o m apos) [] [] pos) X.env = (do
      let ov ← eval o X.env
      standAt apos.atName
      let (f, first) ← holding [ov] (getMethod ov m pl)
      callWith pos f first (backTo pos (starEach [] X.env)) (backToKw pos (keywordEach [] X.env))) := by rfl) :
    PE X (.Call (.Attribute o m apos) [] [] pos) (tMethX C m sp E ta tNil) := by
  refine ⟨fun pins s σ H Q I h => ?_⟩
  refine PySem.W.methodCall_KW (pl := pl) (thn (he.run pins s σ H _ I h) fun u s1 ⟨x, H1, I1, rx, a, dx, fs, ex, ea, l, q⟩ => ?_) ht
  subst ex
  obtain rfl : u = Value.ref a := rx
  refine getmeth_ok I1 ea c hm l ?_
  exact PySem.W.callWith_K0 (first := [.ref a]) I1.kIn hm.kp (run_fnS (us := [.ref a]) (vs := [.ref a]) F hr hb (hx σ) I1 (.cons rfl .nil) q)
end

/-! ### methods of the layer -/
structure MetM (P : Program) (w : World) (K : PySem.W.Frag) (mg : Str → Option Value) (base : Heap) (C : CL) (k c : Nat) (m : Str) (ps : List Str) (f : List Sl → RS) : Prop where
  ex : ∃ (a : Addr) (fd : FuncData), FnOk P w K mg base (L2.CX P w) k a fd ps (spM C K ps.length f) ∧ Meth K (C.cl c) m a ∧ Binds K fd ps []
structure MkM (P : Program) (w : World) (K : PySem.W.Frag) (mg : Str → Option Value) (base : Heap) (C : CL) (k c : Nat) (x : Str) (ps : List Str) (f : List Sl → RS) : Prop where
  ex : ∃ (a : Addr) (fd : FuncData), FnOk P w K mg base (L2.CX P w) k a fd ps (spM C K ps.length f) ∧ Mk K (C.cl c) a ∧ mg x = some (.ref (C.cl c)) ∧ Binds K fd ps []
theorem MetM.pa {P : Program} {w : World} {K : PySem.W.Frag} {mg : Str → Option Value} {base : Heap} {C : CL} {k c : Nat} {m : Str} {ps : List Str} {f : List Sl → RS} (h : MetM P w K mg base C k c m ps f) (pv : List V) : MetM P w K mg base (C.pa pv) k c m ps f := ⟨h.ex⟩
theorem MkM.pa {P : Program} {w : World} {K : PySem.W.Frag} {mg : Str → Option Value} {base : Heap} {C : CL} {k c : Nat} {x : Str} {ps : List Str} {f : List Sl → RS} (h : MkM P w K mg base C k c x ps f) (pv : List V) : MkM P w K mg base (C.pa pv) k c x ps f := ⟨h.ex⟩
section
variable {P : Program} {w : World} {K : PySem.W.Frag} {mg : Str → Option Value} {base : Heap} {C : CL}
theorem MetM.mk' {x qual : Str} {st : Stmt} {f : Addr} {fd : FuncData} {N ps : List Str} {k n np c : Nat} {m : List Sl → SO} (hn : N.length = n) (hnp : ps.length = np) (F : Fun K x qual st f fd) (S : FnScope N ps (defScope st)) (hm : Meth K (C.cl c) x f) (hb : Binds K fd ps [])
    (body : ∀ (pv : List V) (cdv : Value) (A : Around) (outer : List Env) (s : Shared) (H : Hp) (E : XK), Room k (A.deeper (envOfC qual (defScope st) s.heap.objs.size f cdv)) →
      DSs (C.pa pv) (cxOf (L2.CX P w) P w K mg base N qual (defScope st) f cdv A outer s H E) (fun cls d _ H => E cls d H) (defBody st) m) : MetM P w K mg base C (k + 1) c x ps (runM n np m) := by
  subst hnp
  exact ⟨f, fd, DefM.mkFn hn rfl F S body, hm, hb⟩
theorem MkM.mk' {x qual cn : Str} {st : Stmt} {f : Addr} {fd : FuncData} {N ps : List Str} {k n np c : Nat} {m : List Sl → SO} (hn : N.length = n) (hnp : ps.length = np) (F : Fun K x qual st f fd) (S : FnScope N ps (defScope st)) (hm : Mk K (C.cl c) f) (hg : mg cn = some (.ref (C.cl c))) (hb : Binds K fd ps [])
    (body : ∀ (pv : List V) (cdv : Value) (A : Around) (outer : List Env) (s : Shared) (H : Hp) (E : XK), Room k (A.deeper (envOfC qual (defScope st) s.heap.objs.size f cdv)) →
      DSs (C.pa pv) (cxOf (L2.CX P w) P w K mg base N qual (defScope st) f cdv A outer s H E) (fun cls d _ H => E cls d H) (defBody st) m) : MkM P w K mg base C (k + 1) c cn ps (runM n np m) := by
  subst hnp
  exact ⟨f, fd, DefM.mkFn hn rfl F S body, hm, hg, hb⟩
end

/-! ### the call of a method -/
def mMeth (i c : Nat) (mn : Str) (f : List Sl → RS) (ma : List Sl → R (List D)) (S : List Sl) : RS := match S[i]? with
  | some (.ob _ c' fs) => if c' = c ∧ getL mn fs = none then mCallM i f (fun S => (ma S).bind fun ds => .ok ([], ds)) S else .bad
  | _ => .bad
section
variable {C : CL} {X : Cx} {W : WX} {o e : Expr} {es : List Expr} {pos pos' apos p : Pos} {x mn : Str} {i c : Nat}
theorem meth_post {k j n : Nat} {ps : List Str} {f : List Sl → RS} {F0 H0 F H : Hp} {σ : St} {S : List Sl} {Q : VK} {jj : Option Nat} {fs : List (Str × Fl)} {ds : List D} {u : V} {vs : List V} (o : Ok C X.K F0 H0 F H σ S) (hs : S[i]? = some (.ob jj c fs)) (hu : σ[i]? = some (some u)) (r2 : RpA X.K F vs ds) (hn : ds.length + 1 = n)
    (q : PostM C X.K W F0 H0 σ (mCallM i f (fun S => .ok ([], ds)) S) Q) : spM C X.K n f (u :: vs) H Q (WE W σ) := by
  refine call_post (ws1 := []) (d1 := []) (d2 := ds) o hs hu rfl .nil r2 (by simp; omega) ?_
  unfold mCallM at q
  simp only [hs, lend1] at q
  exact q
theorem dem_meth {k j : Nat} {ps : List Str} {f : List Sl → RS} {ma : List Sl → R (List D)} (M : MetM X.prog X.w X.K X.mg X.base C k c mn ps f) (hc : Cls X.K (C.cl c)) (hr : Room j X.A) (hk : k ≤ j) (tk : Takes X W) (ho : PE X o (tVar i)) (ha : DAR C X W (e :: es) ma) (hml : ∀ S xs, ma S = .ok xs → xs.length + 1 = ps.length) {pl : Sem Bool}
    (hst : starEach (e :: es) X.env = (false, eval e X.env) :: starEach es X.env := by rfl) (hpl : (backTo pos (starEach es X.env)).any (·.1) = false := by rfl)
    (ht : eval (.Call (.Attribute o mn apos) (e :: es) [] pos) X.env = (do
      let ov ← eval o X.env
      standAt apos.atName
      let (f, first) ← holding [ov] (getMethod ov mn pl)
      callWith pos f first (backTo pos (starEach (e :: es) X.env)) (backToKw pos (keywordEach [] X.env))) := by rfl) :
    DEM C X W (.Call (.Attribute o mn apos) (e :: es) [] pos) (mMeth i c mn f ma) := by
  obtain ⟨a, fd, fn, hm, hb⟩ := M.ex
  obtain ⟨ta, pa, ka⟩ := ha.ex
  refine .of ⟨_, pe_methX (E := WE W) ho hc hm fn (hr.mono hk) hb (fun σ => passAt tk σ) pa hst hpl ht, fun F0 H0 F H σ S ok Q q => ?_⟩
  unfold mMeth at q
  split at q
  · rename_i jj c' fs hs
    split at q
    · rename_i hcc
      obtain ⟨hcc, hno⟩ := hcc
      subst hcc
      obtain ⟨p0, dx, vs, h1, h2, h3, h4, h5, h6⟩ := ok.obAt hs
      refine ⟨_, h1, p0, dx, vs, rfl, h2, h5 _ hno, ?_⟩
      refine ka _ _ _ _ _ _ ok _ ?_
      have hm2 := hml S
      cases hma : ma S with
      | ok ds =>
        intro ws F1 H1 e1 r1
        refine meth_post (k := k) (j := j) (ps := ps) (ok.up e1) hs h1 r1 (hm2 ds hma) ?_
        unfold mCallM at q ⊢
        dsimp only at q ⊢
        rw [hma] at q
        exact q
      | exc y => unfold mCallM at q; dsimp only at q; rw [hma] at q; exact q F H ok
      | bad => unfold mCallM at q; dsimp only at q; rw [hma] at q; exact q.elim
    · exact q.elim
  · exact q.elim
theorem dem_meth0 {k j : Nat} {ps : List Str} {f : List Sl → RS} (M : MetM X.prog X.w X.K X.mg X.base C k c mn ps f) (hc : Cls X.K (C.cl c)) (hr : Room j X.A) (hk : k ≤ j) (tk : Takes X W) (ho : PE X o (tVar i)) (hml : 1 = ps.length) {pl : Sem Bool}
    (ht : eval (.Call (.Attribute o mn apos) [] [] pos) X.env = (do
      let ov ← eval o X.env
      standAt apos.atName
      let (f, first) ← holding [ov] (getMethod ov mn pl)
      callWith pos f first (backTo pos (starEach [] X.env)) (backToKw pos (keywordEach [] X.env))) := by rfl) :
    DEM C X W (.Call (.Attribute o mn apos) [] [] pos) (mMeth i c mn f aNil) := by
  obtain ⟨a, fd, fn, hm, hb⟩ := M.ex
  refine .of ⟨_, pe_methX0 (E := WE W) ho hc hm fn (hr.mono hk) hb (fun σ => passAt tk σ) ht, fun F0 H0 F H σ S ok Q q => ?_⟩
  unfold mMeth at q
  split at q
  · rename_i jj c' fs hs
    split at q
    · rename_i hcc
      obtain ⟨hcc, hno⟩ := hcc
      subst hcc
      obtain ⟨p0, dx, vs, h1, h2, h3, h4, h5, h6⟩ := ok.obAt hs
      refine ⟨_, h1, p0, dx, vs, rfl, h2, h5 _ hno, ?_⟩
      exact meth_post (k := k) (j := j) (ps := ps) (vs := []) (ds := []) ok hs h1 .nil hml q
    · exact q.elim
  · exact q.elim
theorem lenM {ma : List Sl → R (List D)} {n : Nat} (h : ∀ S xs, ma S = .ok xs → xs.length = n) : ∀ S xs, ma S = .ok xs → xs.length + 1 = n + 1 := fun S xs q => by rw [h S xs q]

/-! ### things made -/
def mkR (i c : Nat) (r : RS) (S : List Sl) : SO := match r with
  | .ok .non Sc => match (Sc[0]? : Option Sl) with
    | some (.ob _ c' fs) => if c' = c then .nx (S.set i (.ob none c fs)) else .bad
    | _ => .bad
  | _ => .bad
def mMk (i c : Nat) (f : List Sl → RS) (ma : List Sl → R (List D)) (S : List Sl) : SO := toSL (ma S) S fun ds => mkR i c (f (.ob (some 0) c [] :: ds.map Sl.fz)) S
theorem ok_make {K : PySem.W.Frag} {F0 H0 F1 H1 : Hp} {σ : St} {S : List Sl} {xa dx : Addr} {vs : List V} {ds : List D} (o1 : Ok C K F0 H0 F1 H1 σ S) (nx : H1 xa = none) (ndx : H1 dx = none) (ne : dx ≠ xa) (r1 : RpA K F1 vs ds) :
    Ok (C.pa (.ref xa :: vs)) K F1 (upd H1 dx (.own xa)) F1 (upd (upd H1 dx (.own xa)) xa (.ins (C.cl c) dx [])) ((V.ref xa :: vs).map some) (.ob (some 0) c [] :: ds.map Sl.fz) ∧
      ∀ F' H' Sc j fs, Ok (C.pa (.ref xa :: vs)) K F1 (upd H1 dx (.own xa)) F' H' ((V.ref xa :: vs).map some) Sc → Sc[0]? = some (.ob j c fs) → Ok C K F0 H0 F' H' (σ.set i (some (.ref xa))) (S.set i (.ob none c fs)) := by
  have hb1 : Same H1 (upd H1 dx (.own xa)) := same_new ndx
  have hx : upd H1 dx (.own xa) xa = none := by rw [upd_ne ne.symm]; exact nx
  have hb2 : Same (upd H1 dx (.own xa)) (upd (upd H1 dx (.own xa)) xa (.ins (C.cl c) dx [])) := same_new hx
  constructor
  · refine ⟨(o1.sub.trans hb1).trans hb2, Same.refl _, hb2, fun _ _ _ _ => rfl, by simp [r1.len], ?_⟩
    refine ⟨fun a => if a = xa then some (0, 0) else none, fun a y h => ?_, fun k s v h1 h2 => ?_⟩
    · by_cases z : a = xa
      · subst z; exact ⟨hx, o1.sub.free nx, _, upd_same, rfl⟩
      · have h : (if a = xa then some (0, 0) else none) = some y := h
        rw [if_neg z] at h; cases h
    · cases k with
      | zero =>
        cases h1; cases h2
        exact ⟨fun k e => by cases e; rfl, xa, dx, [], rfl, if_pos rfl, upd_same, .nil⟩
      | succ k =>
        rw [List.getElem?_cons_succ, List.getElem?_map] at h1
        rw [List.map_cons, List.getElem?_cons_succ, List.getElem?_map] at h2
        cases hd : ds[k]? with
        | none => rw [hd] at h1; cases h1
        | some d =>
          rw [hd] at h1
          cases h1
          obtain ⟨w, hw, rw'⟩ := r1.getD hd
          rw [hw] at h2
          cases h2
          exact ⟨w, rfl, rw'⟩
  · intro F' H' Sc j fs o' hs
    obtain ⟨oc, c1, c2⟩ := o'.ow
    obtain ⟨ow, w1, w2⟩ := o1.ow
    have q := c2 0 _ (some (.ref xa)) hs rfl
    obtain ⟨q0, p, dxx, us, q1, q2, q3, q4⟩ := q
    cases q1
    have hH1 : ∀ a u, H1 a = some u → H' a = some u := fun a u h => o'.h0 a u (hb1 a u h)
    have old1 : ∀ a u, H1 a = some u → notTup u = true → F' a = F1 a := fun a u h n => o'.old a u (hb1 a u h) n
    have ocn : ∀ a u, H1 a = some u → oc a = none := fun a u h => by
      cases z : oc a with
      | none => rfl
      | some y => have := (c1 a y z).1; rw [hb1 a u h] at this; cases this
    refine ⟨o'.sub, o1.f0.trans o'.f0, fun a u h => hH1 a u (o1.h0 a u h), fun a u h n => (old1 a u (o1.h0 a u h) n).trans (o1.old a u h n), by simp [o1.len], ?_⟩
    refine ⟨fun a => match oc a with | some (k, n) => if k = 0 then some (i, n) else none | none => ow a, fun a y h => ?_, fun k s v h1 h2 => ?_⟩
    · have h : (match oc a with | some (k, n) => if k = 0 then some (i, n) else none | none => ow a) = some y := h
      split at h
      · rename_i k n hk
        obtain ⟨y1, y2, y3⟩ := c1 a _ hk
        exact ⟨o1.h0.free (hb1.free y1), y2, y3⟩
      · obtain ⟨y1, y2, u, y3, y4⟩ := w1 a _ h
        exact ⟨y1, (old1 a u y3 (own_tup y4)).trans y2, u, hH1 a u y3, y4⟩
    · by_cases z : i = k
      · subst z
        have hi : i < S.length := by have := (List.getElem?_eq_some_iff.mp h1).1; simpa using this
        have hi' : i < σ.length := by rw [o1.len]; exact hi
        rw [List.getElem?_set_self hi] at h1
        rw [List.getElem?_set_self hi'] at h2
        cases h1; cases h2
        refine ⟨fun k e => (by cases e), xa, dxx, us, rfl, by simp only [q2, if_true], q3, q4.frame (Same.upR (Same.refl _)) (fun _ _ _ => rfl) fun a n h => by simp only [h, if_true]⟩
      · rw [List.getElem?_set_ne z] at h1 h2
        refine (w2 k s v h1 h2).frame (Same.upR o'.f0) (fun a n h => ?_) (fun a u h _ => hH1 a u h) fun a n h => ?_
        · obtain ⟨_, _, u, hu, _⟩ := w1 a _ h
          rw [hu]; exact hH1 a u hu
        · obtain ⟨_, _, u, hu, _⟩ := w1 a _ h
          simp only [ocn a u hu]; exact h
theorem mk_post {K : PySem.W.Frag} {f : List Sl → RS} {n : Nat} {F0 H0 F1 H1 : Hp} {σ : St} {S : List Sl} {vs : List V} {ds : List D} {xa dx : Addr} {E : Ends} {E0 : XK} (o1 : Ok C K F0 H0 F1 H1 σ S) (nx : H1 xa = none) (ndx : H1 dx = none) (ne : dx ≠ xa) (r1 : RpA K F1 vs ds) (hl : ds.length + 1 = n)
    (q : PostS C K W F0 H0 (mkR i c (f (.ob (some 0) c [] :: ds.map Sl.fz)) S) E) :
    spM C K n f (.ref xa :: vs) (upd (upd H1 dx (.own xa)) xa (.ins (C.cl c) dx [])) (fun v H2 => v = .non ∧ E.nx (σ.set i (some (.ref xa))) H2) E0 := by
  obtain ⟨ok, back⟩ := ok_make (c := c) (i := i) o1 nx ndx ne r1
  refine ⟨by rw [List.length_cons, r1.len]; exact hl, F1, _, _, ok, ?_⟩
  unfold mkR at q
  cases h : f (.ob (some 0) c [] :: ds.map Sl.fz) with
  | ok d Sc =>
    rw [h] at q
    intro v F' H' o' rv
    cases d with
    | non =>
      simp only at q
      split at q
      · rename_i j c' fs hs
        split at q
        · rename_i hcc
          subst hcc
          cases rv
          exact ⟨rfl, q _ F' H' (back F' H' Sc j fs o' hs)⟩
        · exact q.elim
      · exact q.elim
    | _ => exact q.elim
  | exc y Sc => rw [h] at q; exact q.elim
  | bad => rw [h] at q; exact q.elim
theorem pass_none : Passes (L2.CX X.prog X.w) X (fun _ _ _ => False) := fun pins σ H s e s' I c => (passAt takes0 σ) pins H s e s' I c
theorem ds_mk {y : Str} {k j : Nat} {ps : List Str} {f : List Sl → RS} {ma : List Sl → R (List D)} (M : MkM X.prog X.w X.K X.mg X.base C k c x ps f) (hN : X.N.Nodup) (hi : X.N[i]? = some y) (hy : Loc X.env.scope y) (hr : Room j X.A) (hk : k + 1 ≤ j) (hg : Gl X x) (ha : DAR C X W (e :: es) ma) (hml : ∀ S xs, ma S = .ok xs → xs.length + 1 = ps.length)
    (hdb : (x == ("__debug__" : Str)) = false := by decide) (he : starEach (e :: es) X.env = (false, eval e X.env) :: starEach es X.env := by rfl) {cpos : Pos} (hpl : (backTo cpos (starEach es X.env)).any (·.1) = false := by rfl)
    (hs : swapsWith (.Call (.Name x p) (e :: es) [] cpos) (some (.Name y pos')) pos.line X.env = pure false := by rfl) (hf : X.fn y = true ∨ X.env.scope.names.lookup y = some .local := by first | exact .inl rfl | exact .inr rfl | assumption) :
    DS C X W (.Assign [.Name y pos'] (.Call (.Name x p) (e :: es) [] cpos) pos) (mMk i c f ma) := by
  obtain ⟨a, fd, fn, hm, hmg, hb⟩ := M.ex
  obtain ⟨ta, pa, ka⟩ := ha.ex
  refine .of ⟨_, ps_set hN hi hy (pe_make (E := fun _ _ _ => False) hm fn (hr.mono hk) hg hmg hb .nil pass_none pa hdb he hpl) hs hf, fun F0 H0 F H σ S ok E q => ?_⟩
  refine ka _ _ _ _ _ _ ok _ ?_
  unfold mMk at q
  have hm2 := hml S
  cases hma : ma S with
  | ok ds =>
    rw [hma] at q
    intro vs F1 H1 e1 r1 xa dx nx ndx ne
    have := mk_post (W := W) (C := C) (i := i) (c := c) (f := f) (E0 := fun _ _ _ => False) (ok.up e1) nx ndx ne r1 (hm2 ds hma) q
    rw [List.append_nil]
    exact this
  | exc y => rw [hma] at q; exact fun cls d F' H' e' z => q σ F' H' (ok.up e') cls d F' H' (Ext.refl e'.fh) z
  | bad => rw [hma] at q; exact q.elim
end
end DL
/-! The data layer, part Rd: loops over a thing's list, the thing hidden. -/
namespace DL
open PySem L2
open PyProof.Rows (envOfC)

def isHd (j : Nat) : Option Sl → Bool
  | some (.hd k) => decide (k = j)
  | _ => false
theorem isHd_is {j : Nat} {s : Option Sl} (h : isHd j s = true) : s = some (.hd j) := by
  unfold isHd at h
  split at h
  · rw [of_decide_eq_true h]
  · cases h
def unhide (i j : Nat) (s : Sl) (r : SO) : SO := match r with
  | .nx S2 => if isHd j S2[i]? = true then .nx (S2.set i s) else .bad
  | .ex e S2 => if isHd j S2[i]? = true then .ex e (S2.set i s) else .bad
  | .rs d S2 => if isHd j S2[i]? = true then .rs d (S2.set i s) else .bad
  | .rt d => .rt d
  | .rl ds => .rl ds
  | .rd es => .rd es
  | _ => .bad
def mForH (i c : Nat) (f : Str) (t : Tg) (mb : List Sl → SO) (S : List Sl) : SO := match S[i]? with
  | some (.ob (some j) c' fs) => if c' = c then (match getL f fs with
    | some (.ol ds) => unhide i j (.ob (some j) c fs) (loopM t mb ds (S.set i (.hd j)))
    | _ => .bad) else .bad
  | _ => .bad
section
variable {C : CL} {K : PySem.W.Frag} {F Hb H : Hp} {σ : St} {S : List Sl}
theorem ok_hide {i j c : Nat} {fs : List (Str × Fl)} {f : Str} {ds : List D} (o : Ok C K F Hb F H σ S) (hs : S[i]? = some (.ob (some j) c fs)) (hl : getL f fs = some (.ol ds)) :
    ∃ Hb' p dx vs q ws, Ok C K F Hb' F H σ (S.set i (.hd j)) ∧ Same Hb Hb' ∧ σ[i]? = some (some (.ref p)) ∧ H p = some (.ins (C.cl c) dx vs) ∧ vs.lookup f = some (.ref q) ∧ H q = some (.lst ws) ∧ RpA K F ws ds ∧ Hb' q = some (.lst ws) ∧
      ∀ F' H' σ' S', Ok C K F Hb' F' H' σ' S' → S'[i]? = some (.hd j) → Ok C K F Hb F' H' σ' (S'.set i (.ob (some j) c fs)) := by
  obtain ⟨v, hv, _⟩ := o.at hs
  obtain ⟨ow, w1, w2⟩ := o.ow
  have hsl := w2 i _ v hs hv
  obtain ⟨h0, p, dx, vs, e1, e2, e3, e4⟩ := id hsl
  obtain ⟨y, z1, q, ws, z2, z3, z4, z5⟩ := e4.look hl
  subst e1; subst z2
  have hb0 : Same Hb (fun a => match ow a with | some (k, _) => if k = i then H a else Hb a | none => Hb a) := fun a u h => by
    have : ∀ x, ow a ≠ some x := fun x hx => by rw [(w1 a x hx).1] at h; cases h
    cases z : ow a with
    | none => simp only [z]; exact h
    | some x => exact absurd z (this x)
  have hbi : ∀ a n, ow a = some (i, n) → (match ow a with | some (k, _) => if k = i then H a else Hb a | none => Hb a) = H a := fun a n h => by simp only [h, if_true]
  refine ⟨fun a => match ow a with | some (k, _) => if k = i then H a else Hb a | none => Hb a, p, dx, vs, q, ws, ⟨o.sub, Same.refl _, fun a u h => ?_, fun _ _ _ _ => rfl, by simp [o.len], ?_⟩, hb0, hv, e3, z1, z4, z5, (hbi q _ z3).trans z4, ?_⟩
  · have h : (match ow a with | some (k, _) => if k = i then H a else Hb a | none => Hb a) = some u := h
    split at h
    · split at h
      · exact h
      · exact o.h0 a u h
    · exact o.h0 a u h
  · refine ⟨fun a => match ow a with | some (k, n) => if k = i then none else some (k, n) | none => none, fun a x h => ?_, fun k s w h1 h2 => ?_⟩
    · have h : (match ow a with | some (k, n) => if k = i then none else some (k, n) | none => none) = some x := h
      split at h
      · rename_i k n hk
        split at h
        · cases h
        · rename_i hne
          exact ⟨by simp only [hk, if_neg hne]; exact (w1 a _ hk).1, (w1 a _ hk).2⟩
      · cases h
    · by_cases z : i = k
      · subst z
        rw [List.getElem?_set_self (List.getElem?_eq_some_iff.mp hs).1] at h1
        cases h1
        rw [hv] at h2
        cases h2
        exact h0 j rfl
      · rw [List.getElem?_set_ne z] at h1
        refine (w2 k s w h1 h2).frame (Same.upR (Same.refl _)) (fun _ _ _ => rfl) (fun _ _ h _ => h) fun a n h => ?_
        simp only [h, if_neg (fun e : k = i => z e.symm)]
  · intro F' H' σ' S' o' hs'
    obtain ⟨oc, c1, c2⟩ := o'.ow
    have hi' : i < S'.length := (List.getElem?_eq_some_iff.mp hs').1
    have hv' : ∃ w, σ'[i]? = some w := ⟨σ'[i]'(by rw [o'.len]; exact hi'), List.getElem?_eq_getElem _⟩
    obtain ⟨w, hw⟩ := hv'
    have hwp : w = C.par j := c2 i _ w hs' hw
    have hvp : some (V.ref p) = C.par j := h0 j rfl
    have ocn : ∀ a n, ow a = some (i, n) → oc a = none := fun a n h => by
      cases z : oc a with
      | none => rfl
      | some y =>
        have := (c1 a y z).1
        rw [hbi a n h] at this
        obtain ⟨_, _, u, hu, _⟩ := w1 a _ h
        rw [hu] at this; cases this
    refine ⟨o'.sub, o'.f0, fun a u h => o'.h0 a u (hb0 a u h), fun a u h n => o'.old a u (hb0 a u h) n, by simp [o'.len], ?_⟩
    refine ⟨fun a => match ow a with | some (k, n) => if k = i then some (i, n) else oc a | none => oc a, fun a x h => ?_, fun k s y h1 h2 => ?_⟩
    · have viaC : oc a = some x → Hb a = none ∧ F' a = none ∧ ∃ u, H' a = some u ∧ ownable u = true := fun h => by
        obtain ⟨y1, y2, y3⟩ := c1 a x h
        exact ⟨hb0.free y1, y2, y3⟩
      have h : (match ow a with | some (k, n) => if k = i then some (i, n) else oc a | none => oc a) = some x := h
      split at h
      · rename_i k n hk
        split at h
        · rename_i hki
          subst hki
          obtain ⟨y1, y2, u, y3, y4⟩ := w1 a _ hk
          have hu : (match ow a with | some (k', _) => if k' = k then H a else Hb a | none => Hb a) = some u := (hbi a n hk).trans y3
          exact ⟨y1, (o'.old a u hu (own_tup y4)).trans y2, u, o'.h0 a u hu, y4⟩
        · exact viaC h
      · exact viaC h
    · by_cases z : i = k
      · subst z
        rw [List.getElem?_set_self hi'] at h1
        cases h1
        rw [hw] at h2
        cases h2
        rw [hwp, ← hvp]
        have st : ∀ a n, ow a = some (i, n) → H' a = H a := fun a n h => by
          obtain ⟨_, _, u, hu, _⟩ := w1 a _ h
          rw [hu]
          exact o'.h0 a u ((hbi a n h).trans hu)
        exact ⟨h0, p, dx, vs, rfl, by simp only [e2, if_true], (st p 0 e2).trans e3, e4.frame (Same.upR o'.f0) st fun a n h => by simp only [h, if_true]⟩
      · rw [List.getElem?_set_ne z] at h1
        refine (c2 k s y h1 h2).frame (Same.upR (Same.refl _)) (fun _ _ _ => rfl) (fun _ _ h _ => h) fun a n h => ?_
        have : ∀ m, ow a ≠ some (i, m) := fun m hm => by rw [ocn a m hm] at h; cases h
        show (match ow a with | some (k, n) => if k = i then some (i, n) else oc a | none => oc a) = some (k, n)
        split
        · rename_i k' n' hk'
          rw [if_neg (fun e => this n' (by rw [hk', e]))]; exact h
        · exact h
variable {X : Cx} {W : WX}
theorem PostS.hide {i j : Nat} {s : Sl} {Hb' : Hp} {r : SO} {E : Ends} (hb : Same Hb Hb') (back : ∀ F' H' σ' S', Ok C K F Hb' F' H' σ' S' → S'[i]? = some (.hd j) → Ok C K F Hb F' H' σ' (S'.set i s)) (q : PostS C K W F Hb (unhide i j s r) E) : PostS C K W F Hb' r E := by
  have ext : ∀ {F1 H1 : Hp}, Ext F Hb' F1 H1 → Ext F Hb F1 H1 := fun e => ⟨e.ff, e.fh, fun a u h => e.hh a u (hb a u h), fun a u h n => e.old a u (hb a u h) n⟩
  unfold unhide at q
  cases r with
  | nx S2 =>
    simp only at q
    split at q
    · rename_i h; exact fun σ F1 H1 o1 => q σ F1 H1 (back F1 H1 σ S2 o1 (isHd_is h))
    · exact q.elim
  | ex e S2 =>
    simp only at q
    split at q
    · rename_i h; exact fun σ F1 H1 o1 => q σ F1 H1 (back F1 H1 σ S2 o1 (isHd_is h))
    · exact q.elim
  | rs d S2 =>
    simp only at q
    split at q
    · rename_i h; exact fun σ v F1 H1 o1 r1 => q σ v F1 H1 (back F1 H1 σ S2 o1 (isHd_is h)) r1
    · exact q.elim
  | rt d => exact fun v F1 H1 e r1 => q v F1 H1 (ext e) r1
  | rl ds => exact fun p vs F1 H1 e h0 hf hp ra => q p vs F1 H1 (ext e) (hb.free h0) hf hp ra
  | rd ds => exact fun p vs F1 H1 e h0 hf hp ra => q p vs F1 H1 (ext e) (hb.free h0) hf hp ra
  | bk S2 => exact q.elim
  | ct S2 => exact q.elim
  | bad => exact q.elim
theorem ds_forH {tg o : Expr} {body : List Stmt} {t : Tg} {mb : List Sl → SO} {i c : Nat} {f : Str} {fpos pos : Pos} (hp : PassesOwn (model X.prog X.w) X.A X.env X.xe) (hc : X.calm = true) (ho : PE X o (tVar i)) (hcf : ClsF X.K (C.cl c) f) (hg : PG X tg (t.g X.K)) (hbd : DSs C X W body mb)
    (hb : attributeBase o f X.env (eval o X.env) = eval o X.env := by rfl) (hs : ∀ x, foldedSetIterable (.Attribute o f fpos) X.env x = pure x := by intro _; rfl) : DS C X W (.For tg (.Attribute o f fpos) body [] pos) (mForH i c f t mb) := by
  refine .of ⟨_, ps_for hp hc (pi_list (pe_fld ho hb)) hg hbd.run hs, fun F0 H0 F H σ S ok E q => ?_⟩
  unfold mForH at q
  split at q
  · rename_i j c' fs hsi
    split at q
    · rename_i hcc
      subst hcc
      split at q
      · rename_i ds hl
        obtain ⟨Hb', p, dx, vs, q0, ws, ok', sm, h1, h2, h3, h4, h5, h6, back⟩ := ok_hide ok.rebase hsi hl
        refine ⟨_, h1, p, C.cl c', dx, vs, _, rfl, h2, hcf.c, hcf.n, h3, q0, rfl, ⟨ws, SqL.of h4⟩, ?_⟩
        have hB : Same (fun a => if a = q0 then some (HO.lst ws) else none) Hb' := fun a u h => by
          have h : (if a = q0 then some (HO.lst ws) else none) = some u := h
          by_cases e : a = q0
          · rw [if_pos e] at h
            cases h
            rw [e]; exact h6
          · rw [if_neg e] at h; cases h
        exact for_core (body := body) ok' (walk_lst (if_pos rfl) h5) (fun F' H' σ' S' o' => hB.trans o'.h0) ((q.rebase ok).hide sm back)
      · exact q.elim
    · exact q.elim
  · exact q.elim
end
end DL
/-! The data layer, part Re: where methods stand in the text. -/
namespace DL
open PySem L2

structure AtM (K : PySem.W.Frag) (Ca : Addr) (x qual : Str) (st : Stmt) (ps : List Str) : Prop where
  ex : ∃ (f : Addr) (fd : FuncData), Fun K x qual st f fd ∧ Meth K Ca x f ∧ Binds K fd ps []
structure AtI (K : PySem.W.Frag) (mg : Str → Option Value) (Ca : Addr) (cn qual : Str) (st : Stmt) (ps : List Str) : Prop where
  ex : ∃ (f : Addr) (fd : FuncData), Fun K "__init__" qual st f fd ∧ Mk K Ca f ∧ mg cn = some (.ref Ca) ∧ Binds K fd ps []
theorem atM_mk {K : PySem.W.Frag} {Ca : Addr} {x qual : Str} {st : Stmt} {ps : List Str} {f : Addr} {oc : Value} {od an : Option Addr} {osl : Array (Option Value)} {kV doc pm cdv ct : Value}
    (a : PySem.W.findIn K (.ref Ca) x = some (some (.ref f))) (i : PySem.W.isFn K (.ref f) = true) (l : K.lookup f = some ⟨oc, od, .func (PySem.W.fnOf x qual (defArgs st) (defBody st) (defScope st) .none kV doc pm an cdv ct), osl⟩) (c : PySem.W.codeIn K cdv qual = true) (k : PySem.W.keepIn K (.ref f) = true)
    (b : ∀ (kV doc pm : Value) (an : Option Addr) (cdv ct : Value) (us : List Value), us.length = ps.length → bindArgs (PySem.W.fnOf x qual (defArgs st) (defBody st) (defScope st) .none kV doc pm an cdv ct) ⟨us, []⟩ = pure (ps.zip us)) : AtM K Ca x qual st ps :=
  have F := fun_mk (st := st) l c k
  ⟨f, _, F, ⟨a, i, k⟩, F.binds b⟩
theorem atI_mk {K : PySem.W.Frag} {h : Heap} {mg : Str → Option Value} {Ca : Addr} {cn qual : Str} {st : Stmt} {ps : List Str} {f : Addr} {oc : Value} {od an : Option Addr} {osl : Array (Option Value)} {kV doc pm cdv ct : Value} (X : K.In h) (G : h.Ns mainGlobals mg)
    (ac : PySem.W.nsIn K mainGlobals cn = some (some (.ref Ca))) (mk : PySem.W.makesIn K Ca = true) (kc : PySem.W.keepIn K (.ref Ca) = true)
    (a : PySem.W.findIn K (.ref Ca) "__init__" = some (some (.ref f))) (i : PySem.W.isFn K (.ref f) = true) (l : K.lookup f = some ⟨oc, od, .func (PySem.W.fnOf "__init__" qual (defArgs st) (defBody st) (defScope st) .none kV doc pm an cdv ct), osl⟩) (c : PySem.W.codeIn K cdv qual = true) (k : PySem.W.keepIn K (.ref f) = true)
    (b : ∀ (kV doc pm : Value) (an : Option Addr) (cdv ct : Value) (us : List Value), us.length = ps.length → bindArgs (PySem.W.fnOf "__init__" qual (defArgs st) (defBody st) (defScope st) .none kV doc pm an cdv ct) ⟨us, []⟩ = pure (ps.zip us)) : AtI K mg Ca cn qual st ps :=
  have F := fun_mk (st := st) l c k
  ⟨f, _, F, ⟨mk, a, i, kc⟩, PySem.W.mg_of X G ac, F.binds b⟩
end DL
/-! The data layer, part Rf: a call that changes a list of one's own and reads a dict of one's own. -/
namespace DL
open PySem L2

section
variable {C : CL} {K : PySem.W.Frag} {F0 H0 F H : Hp} {σ : St} {S : List Sl}
theorem ok_lendV {i j : Nat} {ds : List D} {es : List (Int × D)} {p u : Addr} {ws2 : List V} {ds2 : List D} (o : Ok C K F0 H0 F H σ S) (hij : i ≠ j) (hs : S[i]? = some (.ol ds)) (hu : σ[i]? = some (some (.ref u))) (hd : S[j]? = some (.od es)) (hp : σ[j]? = some (some (.ref p))) (r2 : RpA K F ws2 ds2) :
    ∃ Hc, Ok (C.pa (.ref p :: .ref u :: ws2)) K Hc Hc Hc H ((V.ref p :: .ref u :: ws2).map some) (.fz (.dct es) :: .pl 1 ds :: ds2.map Sl.fz) ∧
      ∀ F' H' Sc ds', Ok (C.pa (.ref p :: .ref u :: ws2)) K Hc Hc F' H' ((V.ref p :: .ref u :: ws2).map some) Sc → Sc[1]? = some (.pl 1 ds') → ds'.all flatD = true → Ok C K F0 H0 F H' σ (S.set i (.ol ds')) := by
  obtain ⟨ow, w1, w2⟩ := o.ow
  obtain ⟨q, vs, q1, q2, q3, q4⟩ := w2 i _ _ hs hu
  cases q1
  obtain ⟨q', kvs, y1, y2, y3, y4⟩ := w2 j _ _ hd hp
  cases y1
  obtain ⟨Hc, hHc⟩ : ∃ Hc : Hp, Hc = fun a => match ow a with | some (k, _) => if k = i then none else H a | none => H a := ⟨_, rfl⟩
  have hcN : ∀ a n, ow a = some (i, n) → Hc a = none := fun a n h => by rw [hHc]; simp only [h, if_true]
  have hcK : ∀ a w, H a = some w → (∀ n, ow a ≠ some (i, n)) → Hc a = some w := fun a w h hn => by
    rw [hHc]
    show (match ow a with | some (k, _) => if k = i then none else H a | none => H a) = some w
    split
    · rename_i k n hk
      rw [if_neg (fun e => hn n (by rw [hk, e]))]; exact h
    · exact h
  have hcH : Same Hc H := fun a w h => by
    rw [hHc] at h
    have h : (match ow a with | some (k, _) => if k = i then none else H a | none => H a) = some w := h
    split at h
    · split at h
      · cases h
      · exact h
    · exact h
  have fc : Same F Hc := fun a w h => hcK a w (o.sub a w h) fun n e => by rw [(w1 a _ e).2.1] at h; cases h
  have h0c : Same H0 Hc := fun a w h => hcK a w (o.h0 a w h) fun n e => by rw [(w1 a _ e).1] at h; cases h
  refine ⟨Hc, ⟨hcH, Same.refl _, hcH, fun _ _ _ _ => rfl, by simp [r2.len], ?_⟩, ?_⟩
  · refine ⟨fun a => match ow a with | some (k, n) => if k = i then some (1, n) else none | none => none, fun a x h => ?_, fun k s v h1 h2 => ?_⟩
    · have h : (match ow a with | some (k, n) => if k = i then some (1, n) else none | none => none) = some x := h
      split at h
      · rename_i k n hk
        split at h
        · rename_i e
          subst e
          exact ⟨hcN a n hk, hcN a n hk, (w1 a _ hk).2.2⟩
        · cases h
      · cases h
    · match k with
      | 0 =>
        cases h1; cases h2
        refine ⟨_, rfl, .dct (.inl (hcK p _ y3 fun n e => by rw [y2] at e; cases e; exact hij rfl)) (y4.up fc)⟩
      | 1 =>
        cases h1; cases h2
        exact ⟨rfl, u, vs, rfl, by simp only [q2, if_true], q3, q4.up fc⟩
      | k + 2 =>
        rw [List.getElem?_cons_succ, List.getElem?_cons_succ, List.getElem?_map] at h1
        rw [List.map_cons, List.map_cons, List.getElem?_cons_succ, List.getElem?_cons_succ, List.getElem?_map] at h2
        cases hdk : ds2[k]? with
        | none => rw [hdk] at h1; cases h1
        | some d =>
          rw [hdk] at h1
          cases h1
          obtain ⟨w, hw, rw'⟩ := r2.getD hdk
          rw [hw] at h2
          cases h2
          exact ⟨w, rfl, rw'.up fc⟩
  · intro F' H' Sc ds' o' ht' hfl
    obtain ⟨oc, c1, c2⟩ := o'.ow
    have ff : Same F F' := fc.trans o'.f0
    have ocNot : ∀ a k n, ow a = some (k, n) → k ≠ i → oc a = none := fun a k n h hk => by
      cases z : oc a with
      | none => rfl
      | some x =>
        exfalso
        have z1 := (c1 a x z).1
        obtain ⟨_, _, w, hw, _⟩ := w1 a _ h
        rw [hcK a w hw (fun n2 e => by rw [h] at e; cases e; exact hk rfl)] at z1
        cases z1
    refine ⟨fun a w h => o'.h0 a w (fc a w h), o.f0, fun a w h => o'.h0 a w (h0c a w h), o.old, by simp [o.len], ?_⟩
    refine ⟨fun a => match oc a with | some (k, n) => if k = 1 then some (i, n) else none | none => match ow a with | some (k, n) => if k = i then none else some (k, n) | none => none, fun a x h => ?_, fun k r v h1 h2 => ?_⟩
    · have h : (match oc a with | some (k, n) => if k = 1 then some (i, n) else none | none => match ow a with | some (k, n) => if k = i then none else some (k, n) | none => none) = some x := h
      split at h
      · rename_i k n hk
        obtain ⟨z1, z2, z3⟩ := c1 a _ hk
        exact ⟨h0c.free z1, ff.free z2, z3⟩
      · split at h
        · rename_i k n hk
          split at h
          · cases h
          · rename_i ne
            obtain ⟨z1, z2, w, z3, z4⟩ := w1 a _ hk
            have hk2 := hcK a w z3 (fun n2 e => by rw [hk] at e; cases e; exact ne rfl)
            exact ⟨z1, z2, w, o'.h0 a w hk2, z4⟩
        · cases h
    · by_cases c : i = k
      · subst c
        rw [List.getElem?_set_self (List.getElem?_eq_some_iff.mp hs).1] at h1
        cases h1
        rw [hu] at h2
        cases h2
        obtain ⟨_, p', vs', z1, z2, z3, z4⟩ := c2 1 _ (some (.ref u)) ht' rfl
        exact ⟨p', vs', z1, by simp only [z2, if_true], z3, flats_tr hfl z4⟩
      · rw [List.getElem?_set_ne c] at h1
        refine (w2 k r v h1 h2).frame (Same.upR (Same.refl _)) (fun a n h => ?_) (fun a w h n => ?_) fun a n h => ?_
        · obtain ⟨_, _, w, hw, _⟩ := w1 a _ h
          rw [hw]
          exact o'.h0 a w (hcK a w hw (fun n2 e => by rw [h] at e; cases e; exact c rfl))
        · refine o'.h0 a w (hcK a w h fun n2 e => ?_)
          obtain ⟨_, _, w2, hw2, hw3⟩ := w1 a _ e
          rw [h] at hw2; cases hw2; rw [n] at hw3; cases hw3
        · simp only [ocNot a k n h (fun e => c e.symm), h, if_neg (fun e : k = i => c e.symm)]
end
/-- f(d, xs, ..): d a dict of one's own (read), xs a list of one's own (changed) -/
def mCallW (j i : Nat) (f : List Sl → RS) (m : List Sl → R (List D)) (S : List Sl) : RS := match S[j]?, S[i]? with
  | some (.od es), some (.ol ds) => match m S with
    | .ok ds2 => match f (.fz (.dct es) :: .pl 1 ds :: ds2.map Sl.fz) with
      | .ok d Sc => match (Sc[1]? : Option Sl) with
        | some (.pl 1 ds') => if (ds'.all flatD && flatT d) = true then .ok d (S.set i (.ol ds')) else .bad
        | _ => .bad
      | _ => .bad
    | _ => .bad
  | _, _ => .bad
section
variable {C : CL} {X : Cx} {W : WX} {a b : Expr} {es : List Expr} {pos p : Pos} {x : Str}
theorem dem_callW {k l i j : Nat} {ps : List Str} {f : List Sl → RS} {m : List Sl → R (List D)} (F : DefM X.prog X.w X.K X.mg X.base C k x ps f) (hij : i ≠ j) (hr : Room l X.A) (hk : k ≤ l) (tk : Takes X W) (hg : Gl X x) (ha : PE X a (tVar j)) (hb : PE X b (tVar i)) (hc : DAR C X W es m) (hml : ∀ S xs, m S = .ok xs → xs.length + 2 = ps.length)
    (hdb : (x == ("__debug__" : Str)) = false := by decide) (he : starEach (a :: b :: es) X.env = (false, eval a X.env) :: starEach (b :: es) X.env := by rfl) (he2 : starEach (b :: es) X.env = (false, eval b X.env) :: starEach es X.env := by rfl) (hpl : (backTo pos (starEach (b :: es) X.env)).any (·.1) = false := by rfl) :
    DEM C X W (.Call (.Name x p) (a :: b :: es) [] pos) (mCallW j i f m) := by
  obtain ⟨ad, fd, fn, mgx, kp, hbi⟩ := F.ex
  obtain ⟨tc, pc, kc⟩ := hc.ex
  refine .of ⟨_, pe_callS (E := WE W) fn (hr.mono hk) hg mgx kp hbi (fun σ => passAt tk σ) (pa_cons ha (pa_cons hb pc he2) he) hdb he hpl, fun F0 H0 F H σ S o Q q => ?_⟩
  unfold mCallW at q
  split at q
  · rename_i es' ds hd hs
    obtain ⟨v1, hv1, p1, kvs, e1, _⟩ := o.at hd
    obtain ⟨v2, hv2, p2, vs, e2, _⟩ := o.at hs
    subst e1; subst e2
    refine ⟨_, hv1, _, hv2, ?_⟩
    refine kc _ _ _ _ _ _ o _ ?_
    have hm2 := hml S
    cases hm : m S with
    | ok ds2 =>
      rw [hm] at q
      intro ws F1 H1 ex r2
      obtain ⟨Hc, oc, back⟩ := ok_lendV (o.up ex) hij hs hv2 hd hv1 r2
      refine ⟨by have := hm2 ds2 hm; rw [List.length_cons, List.length_cons, r2.len]; omega, Hc, Hc, _, oc, ?_⟩
      simp only at q
      cases hf : f (.fz (.dct es') :: .pl 1 ds :: ds2.map Sl.fz) with
      | ok d Sc =>
        rw [hf] at q
        intro v F' H' o' rv
        simp only at q
        split at q
        · rename_i ds' ht'
          split at q
          · rename_i hfl
            rw [Bool.and_eq_true] at hfl
            have ob := back F' H' Sc ds' o' ht' hfl.1
            obtain ⟨G, g1, g2, g3, g4⟩ := learnT o'.sub d v F1 hfl.2 ob.sub rv
            refine q v G H' (ob.up ⟨g1, g2, Same.refl _, fun a w h n => ?_⟩) g4
            cases z : F1 a with
            | some w2 => exact g1 a w2 z
            | none =>
              cases z2 : G a with
              | none => rfl
              | some w2 =>
                have := g3 a w2 z2 z
                have e := g2 a w2 z2
                rw [h] at e; cases e
                rw [n] at this; cases this
          · exact q.elim
        · exact q.elim
      | exc y Sc => rw [hf] at q; exact q.elim
      | bad => rw [hf] at q; exact q.elim
    | exc y => rw [hm] at q; exact q.elim
    | bad => rw [hm] at q; exact q.elim
  · exact q.elim
theorem lenW2 {m : List Sl → R (List D)} {n : Nat} (h : ∀ S xs, m S = .ok xs → xs.length = n) : ∀ S xs, m S = .ok xs → xs.length + 2 = n + 2 := fun S xs q => by rw [h S xs q]
end
end DL
/-! The data layer, part M: the mirrors computed. -/
namespace DL
open PySem L2

/-! ### evaluation -/
@[simp] theorem s_getF0 (d : D) (S : List Sl) : getF 0 (.fz d :: S) = .ok d := id rfl
@[simp] theorem s_getFs (n : Nat) (s : Sl) (S : List Sl) : getF (n + 1) (s :: S) = getF n S := id rfl
@[simp] theorem s_getV0 (d : D) (S : List Sl) : getV 0 (.fz d :: S) = .ok d := id rfl
@[simp] theorem s_getV0l (d : List D) (S : List Sl) : getV 0 (.ol d :: S) = .ok (.lst d) := id rfl
@[simp] theorem s_getV0d (d : List (Int × D)) (S : List Sl) : getV 0 (.od d :: S) = .ok (.dct d) := id rfl
@[simp] theorem s_getVs (n : Nat) (s : Sl) (S : List Sl) : getV (n + 1) (s :: S) = getV n S := id rfl
@[simp] theorem s_cst (d : D) (S : List Sl) : cst d S = .ok d := id rfl
@[simp] theorem s_m2 (g : D → D → R D) (ma mb : List Sl → R D) (S : List Sl) : m2 g ma mb S = (ma S).bind fun x => (mb S).bind fun y => g x y := id rfl
@[simp] theorem s_m1 (g : D → R D) (ma : List Sl → R D) (S : List Sl) : m1 g ma S = (ma S).bind g := id rfl
@[simp] theorem s_m3 (g g' : D → D → R D) (ma mb mc : List Sl → R D) (S : List Sl) : m3 g g' ma mb mc S = (ma S).bind fun x => (mb S).bind fun y => (g x y).bind fun z => (tBl z).bind fun k => if k = true then (mc S).bind fun w => g' y w else .ok (.bl false) := id rfl
@[simp] theorem s_mSeq (a b : List Sl → SO) (S : List Sl) : mSeq a b S = match a S with
  | .nx S' => b S'
  | r => r := id rfl
@[simp] theorem s_mSkip (S : List Sl) : mSkip S = .nx S := id rfl
@[simp] theorem s_mSet (i : Nat) (m : List Sl → R D) (S : List Sl) : mSet i m S = toS (m S) S fun d => .nx (S.set i (.fz d)) := id rfl
@[simp] theorem s_mSetN (i : Nat) (m : List Sl → R (List D)) (S : List Sl) : mSetN i m S = toSL (m S) S fun d => .nx (S.set i (.ol d)) := id rfl
@[simp] theorem s_mRet (m : List Sl → R D) (S : List Sl) : mRet m S = toS (m S) S fun d => .rt d := id rfl
@[simp] theorem s_mIfS (t : List Sl → R Bool) (a b : List Sl → SO) (S : List Sl) : mIfS t a b S = toSL (t S) S fun c => if c = true then a S else b S := id rfl
@[simp] theorem s_mIf (t : List Sl → R Bool) (a b : List Sl → R D) (S : List Sl) : mIf t a b S = (t S).bind fun c => if c = true then a S else b S := id rfl
@[simp] theorem s_tBl (b : Bool) : tBl (.bl b) = .ok b := id rfl
@[simp] theorem s_tAnd2 (ma mb : List Sl → R Bool) (S : List Sl) : tAnd2 ma mb S = (ma S).bind fun c => if c = true then mb S else .ok false := id rfl
@[simp] theorem s_tOr2 (ma mb : List Sl → R Bool) (S : List Sl) : tOr2 ma mb S = (ma S).bind fun c => if c = true then .ok true else mb S := id rfl
@[simp] theorem s_tNot1 (ma : List Sl → R Bool) (S : List Sl) : tNot1 ma S = (ma S).bind fun c => .ok (!c) := id rfl
@[simp] theorem s_mAnd2 (ma mb : List Sl → R D) (S : List Sl) : mAnd2 ma mb S = (ma S).bind fun x => (trD x).bind fun c => if c = true then mb S else .ok x := id rfl
@[simp] theorem s_mOr2 (ma mb : List Sl → R D) (S : List Sl) : mOr2 ma mb S = (ma S).bind fun x => (trD x).bind fun c => if c = true then .ok x else mb S := id rfl
@[simp] theorem s_mNot (ma : List Sl → R D) (S : List Sl) : mNot ma S = (ma S).bind fun x => (trD x).bind fun c => .ok (.bl (!c)) := id rfl
@[simp] theorem s_aNil (S : List Sl) : aNil S = .ok [] := id rfl
@[simp] theorem s_aCons (ma : List Sl → R D) (mr : List Sl → R (List D)) (S : List Sl) : aCons ma mr S = (ma S).bind fun x => (mr S).bind fun xs => .ok (x :: xs) := id rfl
@[simp] theorem s_aLim (ma : List Sl → R (List D)) (S : List Sl) : aLim ma S = (ma S).bind lim := id rfl
@[simp] theorem s_oNo (S : List Sl) : oNo S = .ok none := id rfl
@[simp] theorem s_oSome (m : List Sl → R D) (S : List Sl) : oSome m S = (m S).bind toI := id rfl
@[simp] theorem s_toI (i : Int) : toI (.int i) = .ok (some i) := id rfl
@[simp] theorem s_mSl (ma : List Sl → R D) (ml mh : List Sl → R (Option Int)) (S : List Sl) : mSl ma ml mh S = (ma S).bind fun x => (ml S).bind fun l => (mh S).bind fun h => slD l h x := id rfl
@[simp] theorem s_mItems (ma : List Sl → R D) (S : List Sl) : mItems ma S = (ma S).bind itemsD := id rfl
@[simp] theorem s_mFor (t : Tg) (mi : List Sl → R (List D)) (body : List Sl → SO) (S : List Sl) : mFor t mi body S = toSL (mi S) S fun ds => loopM t body ds S := id rfl
@[simp] theorem s_on1 (g : D → R D) (x : D) : on1 g [x] = g x := id rfl
@[simp] theorem s_addI (i j : Int) : addD (.int i) (.int j) = .ok (.int (i + j)) := id rfl
@[simp] theorem s_subI (i j : Int) : subD (.int i) (.int j) = .ok (.int (i - j)) := id rfl
@[simp] theorem s_negI (i : Int) : negD (.int i) = .ok (.int (-i)) := id rfl
@[simp] theorem s_eqI (i j : Int) : eqD (.int i) (.int j) = .ok (.bl (decide (i = j))) := id rfl
@[simp] theorem s_eqS (i j : Str) : eqD (.str i) (.str j) = .ok (.bl (decide (i = j))) := id rfl
@[simp] theorem s_eqB (a b : Bool) : eqD (.bl a) (.bl b) = .ok (.bl (decide (a = b))) := by cases a <;> cases b <;> rfl
@[simp] theorem s_neD (x y : D) : neD x y = (eqD x y).bind notD := id rfl
@[simp] theorem s_notD (b : Bool) : notD (.bl b) = .ok (.bl (!b)) := id rfl
@[simp] theorem s_ltI (i j : Int) : ltD (.int i) (.int j) = .ok (.bl (decide (i < j))) := id rfl
@[simp] theorem s_leI (i j : Int) : leD (.int i) (.int j) = .ok (.bl (decide (i ≤ j))) := id rfl
@[simp] theorem s_gtI (i j : Int) : gtD (.int i) (.int j) = .ok (.bl (decide (j < i))) := id rfl
@[simp] theorem s_geI (i j : Int) : geD (.int i) (.int j) = .ok (.bl (decide (j ≤ i))) := id rfl
@[simp] theorem s_isN (x : D) : isD x .non = .ok (.bl (isNonD x)) := by cases x <;> rfl
@[simp] theorem s_isNotN (x : D) : isNotD x .non = .ok (.bl (!isNonD x)) := by unfold isNotD; rw [s_isN]; rfl
@[simp] theorem s_nonN : isNonD .non = true := id rfl
@[simp] theorem s_nonI (i : Int) : isNonD (.int i) = false := id rfl
@[simp] theorem s_nonB (i : Bool) : isNonD (.bl i) = false := id rfl
@[simp] theorem s_nonL (i : List D) : isNonD (.lst i) = false := id rfl
@[simp] theorem s_nonT (i : List D) : isNonD (.tup i) = false := id rfl
@[simp] theorem s_nonK (i : List (Int × D)) : isNonD (.dct i) = false := id rfl
@[simp] theorem s_trB (b : Bool) : trD (.bl b) = .ok b := id rfl
@[simp] theorem s_trI (b : Int) : trD (.int b) = .ok (b != 0) := id rfl
@[simp] theorem s_trN : trD .non = .ok false := id rfl
@[simp] theorem s_trL (b : List D) : trD (.lst b) = .ok (!b.isEmpty) := id rfl
@[simp] theorem s_trT (b : List D) : trD (.tup b) = .ok (!b.isEmpty) := id rfl
@[simp] theorem s_trSc (b : List Int) : trD (.scr b) = .ok (!b.isEmpty) := id rfl
@[simp] theorem s_lenL (b : List D) : lenD (.lst b) = .ok (.int b.length) := id rfl
@[simp] theorem s_lenT (b : List D) : lenD (.tup b) = .ok (.int b.length) := id rfl
@[simp] theorem s_lenSc (b : List Int) : lenD (.scr b) = .ok (.int b.length) := id rfl
@[simp] theorem s_lenK (b : List (Int × D)) : lenD (.dct b) = .ok (.int b.length) := id rfl
@[simp] theorem s_absI (i : Int) : absD (.int i) = .ok (.int (if i < 0 then -i else i)) := id rfl
@[simp] theorem s_ixL (b : List D) (i : Int) : ixD (.lst b) (.int i) = optD (atI b i) := id rfl
@[simp] theorem s_ixT (b : List D) (i : Int) : ixD (.tup b) (.int i) = optD (atI b i) := id rfl
@[simp] theorem s_ixSc (b : List Int) (i : Int) : ixD (.scr b) (.int i) = optD ((atI b i).map D.int) := id rfl
@[simp] theorem s_ixK (b : List (Int × D)) (i : Int) : ixD (.dct b) (.int i) = optD (keyD b i) := id rfl
@[simp] theorem s_optS (d : D) : optD (some d) = .ok d := id rfl
theorem modI {i j : Int} (h : 0 < j) : modD (.int i) (.int j) = .ok (.int (i % j)) := if_pos h
theorem fdivI {i j : Int} (h : 0 < j) (h2 : j < 1073741824) : fdivD (.int i) (.int j) = .ok (.int (i / j)) := if_pos ⟨h, h2⟩
theorem mulL {i j : Int} (h : -(2 ^ 64) < i) (h2 : i < 2 ^ 64) : mulD (.int i) (.int j) = .ok (.int (i * j)) := if_pos (.inl ⟨h, h2⟩)
theorem mulR {i j : Int} (h : -(2 ^ 64) < j) (h2 : j < 2 ^ 64) : mulD (.int i) (.int j) = .ok (.int (i * j)) := if_pos (.inr ⟨h, h2⟩)
theorem powI {i j : Int} (h : 0 ≤ j) (h2 : j ≤ 1000000) (h3 : i.natAbs < 2 ^ 64) : powD (.int i) (.int j) = .ok (.int (i ^ j.toNat)) := if_pos ⟨h, h2, h3⟩
theorem limS {ds : List D} (h : ds.length ≤ 100000) : lim ds = .ok ds := if_pos (Nat.le_trans h (by decide))
theorem lenS {s : Str} (h : s.length ≤ sizeLine) : lenD (.str s) = .ok (.int s.length) := if_pos h
theorem slS {s : Str} {l h : Option Int} (c : s.length ≤ sizeLine) : slD l h (.str s) = .ok (.str (cutS s l h)) := if_pos c

/-! ### places of a list -/
theorem atI_lt {α : Type} {xs : List α} {i : Int} (h0 : 0 ≤ i) (h : i < xs.length) : atI xs i = some (xs[i.toNat]'(by omega)) := by
  unfold atI ixN
  rw [if_pos h0, if_pos h]
  exact List.getElem?_eq_getElem _
theorem atI_neg {α : Type} {xs : List α} {i : Int} (h0 : i < 0) (h : -(xs.length : Int) ≤ i) : atI xs i = some (xs[(i + xs.length).toNat]'(by omega)) := by
  unfold atI ixN
  rw [if_neg (by omega), if_pos h]
  exact List.getElem?_eq_getElem _

/-! ### isinstance -/
theorem kb_non_int : kitB "NoneType" "int" = some false := by decide +kernel
@[simp] theorem isi_non_int : isiD "int" .non = .ok (.bl false) := by unfold isiD; simp only [tyN, kb_non_int]
theorem kb_bl_int : kitB "bool" "int" = some true := by decide +kernel
@[simp] theorem isi_bl_int (x : Bool) : isiD "int" (.bl x) = .ok (.bl true) := by unfold isiD; simp only [tyN, kb_bl_int]
theorem kb_int_int : kitB "int" "int" = some true := by decide +kernel
@[simp] theorem isi_int_int (x : Int) : isiD "int" (.int x) = .ok (.bl true) := by unfold isiD; simp only [tyN, kb_int_int]
theorem kb_str_int : kitB "str" "int" = some false := by decide +kernel
@[simp] theorem isi_str_int (x : Str) : isiD "int" (.str x) = .ok (.bl false) := by unfold isiD; simp only [tyN, kb_str_int]
theorem kb_lst_int : kitB "list" "int" = some false := by decide +kernel
@[simp] theorem isi_lst_int (x : List D) : isiD "int" (.lst x) = .ok (.bl false) := by unfold isiD; simp only [tyN, kb_lst_int]
theorem kb_tup_int : kitB "tuple" "int" = some false := by decide +kernel
@[simp] theorem isi_tup_int (x : List D) : isiD "int" (.tup x) = .ok (.bl false) := by unfold isiD; simp only [tyN, kb_tup_int]
theorem kb_dct_int : kitB "dict" "int" = some false := by decide +kernel
@[simp] theorem isi_dct_int (x : List (Int × D)) : isiD "int" (.dct x) = .ok (.bl false) := by unfold isiD; simp only [tyN, kb_dct_int]
theorem kb_non_bool : kitB "NoneType" "bool" = some false := by decide +kernel
@[simp] theorem isi_non_bool : isiD "bool" .non = .ok (.bl false) := by unfold isiD; simp only [tyN, kb_non_bool]
theorem kb_bl_bool : kitB "bool" "bool" = some true := by decide +kernel
@[simp] theorem isi_bl_bool (x : Bool) : isiD "bool" (.bl x) = .ok (.bl true) := by unfold isiD; simp only [tyN, kb_bl_bool]
theorem kb_int_bool : kitB "int" "bool" = some false := by decide +kernel
@[simp] theorem isi_int_bool (x : Int) : isiD "bool" (.int x) = .ok (.bl false) := by unfold isiD; simp only [tyN, kb_int_bool]
theorem kb_str_bool : kitB "str" "bool" = some false := by decide +kernel
@[simp] theorem isi_str_bool (x : Str) : isiD "bool" (.str x) = .ok (.bl false) := by unfold isiD; simp only [tyN, kb_str_bool]
theorem kb_lst_bool : kitB "list" "bool" = some false := by decide +kernel
@[simp] theorem isi_lst_bool (x : List D) : isiD "bool" (.lst x) = .ok (.bl false) := by unfold isiD; simp only [tyN, kb_lst_bool]
theorem kb_tup_bool : kitB "tuple" "bool" = some false := by decide +kernel
@[simp] theorem isi_tup_bool (x : List D) : isiD "bool" (.tup x) = .ok (.bl false) := by unfold isiD; simp only [tyN, kb_tup_bool]
theorem kb_dct_bool : kitB "dict" "bool" = some false := by decide +kernel
@[simp] theorem isi_dct_bool (x : List (Int × D)) : isiD "bool" (.dct x) = .ok (.bl false) := by unfold isiD; simp only [tyN, kb_dct_bool]
theorem kb_non_str : kitB "NoneType" "str" = some false := by decide +kernel
@[simp] theorem isi_non_str : isiD "str" .non = .ok (.bl false) := by unfold isiD; simp only [tyN, kb_non_str]
theorem kb_bl_str : kitB "bool" "str" = some false := by decide +kernel
@[simp] theorem isi_bl_str (x : Bool) : isiD "str" (.bl x) = .ok (.bl false) := by unfold isiD; simp only [tyN, kb_bl_str]
theorem kb_int_str : kitB "int" "str" = some false := by decide +kernel
@[simp] theorem isi_int_str (x : Int) : isiD "str" (.int x) = .ok (.bl false) := by unfold isiD; simp only [tyN, kb_int_str]
theorem kb_str_str : kitB "str" "str" = some true := by decide +kernel
@[simp] theorem isi_str_str (x : Str) : isiD "str" (.str x) = .ok (.bl true) := by unfold isiD; simp only [tyN, kb_str_str]
theorem kb_lst_str : kitB "list" "str" = some false := by decide +kernel
@[simp] theorem isi_lst_str (x : List D) : isiD "str" (.lst x) = .ok (.bl false) := by unfold isiD; simp only [tyN, kb_lst_str]
theorem kb_tup_str : kitB "tuple" "str" = some false := by decide +kernel
@[simp] theorem isi_tup_str (x : List D) : isiD "str" (.tup x) = .ok (.bl false) := by unfold isiD; simp only [tyN, kb_tup_str]
theorem kb_dct_str : kitB "dict" "str" = some false := by decide +kernel
@[simp] theorem isi_dct_str (x : List (Int × D)) : isiD "str" (.dct x) = .ok (.bl false) := by unfold isiD; simp only [tyN, kb_dct_str]
theorem kb_non_list : kitB "NoneType" "list" = some false := by decide +kernel
@[simp] theorem isi_non_list : isiD "list" .non = .ok (.bl false) := by unfold isiD; simp only [tyN, kb_non_list]
theorem kb_bl_list : kitB "bool" "list" = some false := by decide +kernel
@[simp] theorem isi_bl_list (x : Bool) : isiD "list" (.bl x) = .ok (.bl false) := by unfold isiD; simp only [tyN, kb_bl_list]
theorem kb_int_list : kitB "int" "list" = some false := by decide +kernel
@[simp] theorem isi_int_list (x : Int) : isiD "list" (.int x) = .ok (.bl false) := by unfold isiD; simp only [tyN, kb_int_list]
theorem kb_str_list : kitB "str" "list" = some false := by decide +kernel
@[simp] theorem isi_str_list (x : Str) : isiD "list" (.str x) = .ok (.bl false) := by unfold isiD; simp only [tyN, kb_str_list]
theorem kb_lst_list : kitB "list" "list" = some true := by decide +kernel
@[simp] theorem isi_lst_list (x : List D) : isiD "list" (.lst x) = .ok (.bl true) := by unfold isiD; simp only [tyN, kb_lst_list]
theorem kb_tup_list : kitB "tuple" "list" = some false := by decide +kernel
@[simp] theorem isi_tup_list (x : List D) : isiD "list" (.tup x) = .ok (.bl false) := by unfold isiD; simp only [tyN, kb_tup_list]
theorem kb_dct_list : kitB "dict" "list" = some false := by decide +kernel
@[simp] theorem isi_dct_list (x : List (Int × D)) : isiD "list" (.dct x) = .ok (.bl false) := by unfold isiD; simp only [tyN, kb_dct_list]
theorem kb_non_tuple : kitB "NoneType" "tuple" = some false := by decide +kernel
@[simp] theorem isi_non_tuple : isiD "tuple" .non = .ok (.bl false) := by unfold isiD; simp only [tyN, kb_non_tuple]
theorem kb_bl_tuple : kitB "bool" "tuple" = some false := by decide +kernel
@[simp] theorem isi_bl_tuple (x : Bool) : isiD "tuple" (.bl x) = .ok (.bl false) := by unfold isiD; simp only [tyN, kb_bl_tuple]
theorem kb_int_tuple : kitB "int" "tuple" = some false := by decide +kernel
@[simp] theorem isi_int_tuple (x : Int) : isiD "tuple" (.int x) = .ok (.bl false) := by unfold isiD; simp only [tyN, kb_int_tuple]
theorem kb_str_tuple : kitB "str" "tuple" = some false := by decide +kernel
@[simp] theorem isi_str_tuple (x : Str) : isiD "tuple" (.str x) = .ok (.bl false) := by unfold isiD; simp only [tyN, kb_str_tuple]
theorem kb_lst_tuple : kitB "list" "tuple" = some false := by decide +kernel
@[simp] theorem isi_lst_tuple (x : List D) : isiD "tuple" (.lst x) = .ok (.bl false) := by unfold isiD; simp only [tyN, kb_lst_tuple]
theorem kb_tup_tuple : kitB "tuple" "tuple" = some true := by decide +kernel
@[simp] theorem isi_tup_tuple (x : List D) : isiD "tuple" (.tup x) = .ok (.bl true) := by unfold isiD; simp only [tyN, kb_tup_tuple]
theorem kb_dct_tuple : kitB "dict" "tuple" = some false := by decide +kernel
@[simp] theorem isi_dct_tuple (x : List (Int × D)) : isiD "tuple" (.dct x) = .ok (.bl false) := by unfold isiD; simp only [tyN, kb_dct_tuple]
theorem kb_non_dict : kitB "NoneType" "dict" = some false := by decide +kernel
@[simp] theorem isi_non_dict : isiD "dict" .non = .ok (.bl false) := by unfold isiD; simp only [tyN, kb_non_dict]
theorem kb_bl_dict : kitB "bool" "dict" = some false := by decide +kernel
@[simp] theorem isi_bl_dict (x : Bool) : isiD "dict" (.bl x) = .ok (.bl false) := by unfold isiD; simp only [tyN, kb_bl_dict]
theorem kb_int_dict : kitB "int" "dict" = some false := by decide +kernel
@[simp] theorem isi_int_dict (x : Int) : isiD "dict" (.int x) = .ok (.bl false) := by unfold isiD; simp only [tyN, kb_int_dict]
theorem kb_str_dict : kitB "str" "dict" = some false := by decide +kernel
@[simp] theorem isi_str_dict (x : Str) : isiD "dict" (.str x) = .ok (.bl false) := by unfold isiD; simp only [tyN, kb_str_dict]
theorem kb_lst_dict : kitB "list" "dict" = some false := by decide +kernel
@[simp] theorem isi_lst_dict (x : List D) : isiD "dict" (.lst x) = .ok (.bl false) := by unfold isiD; simp only [tyN, kb_lst_dict]
theorem kb_tup_dict : kitB "tuple" "dict" = some false := by decide +kernel
@[simp] theorem isi_tup_dict (x : List D) : isiD "dict" (.tup x) = .ok (.bl false) := by unfold isiD; simp only [tyN, kb_tup_dict]
theorem kb_dct_dict : kitB "dict" "dict" = some true := by decide +kernel
@[simp] theorem isi_dct_dict (x : List (Int × D)) : isiD "dict" (.dct x) = .ok (.bl true) := by unfold isiD; simp only [tyN, kb_dct_dict]
theorem atI_mem {α : Type} {xs : List α} {i : Int} (h0 : 0 ≤ i) (h : i < xs.length) : ∃ x, x ∈ xs ∧ atI xs i = some x := ⟨_, List.getElem_mem _, atI_lt h0 h⟩
theorem md_lo (a : Int) {b : Int} (h : 0 < b) : 0 ≤ a % b := Int.emod_nonneg _ (Int.ne_of_gt h)
theorem md_hi (a : Int) {b : Int} (h : 0 < b) : a % b < b := Int.emod_lt_of_pos _ h
/-! ### loops -/
/-- a loop's end: `P` of the items that are left and the state; `Q` of what comes out -/
theorem loop_wp {t : Tg} {body : List Sl → SO} (P : List D → List Sl → Prop) (Q : SO → Prop) (h0 : ∀ S, P [] S → Q (.nx S))
    (h1 : ∀ d ds S, P (d :: ds) S → ∃ S1, t.put d S = .ok S1 ∧ ((∃ S2, (body S1 = .nx S2 ∨ body S1 = .ct S2) ∧ P ds S2) ∨ (∃ S2, body S1 = .bk S2 ∧ Q (.nx S2)) ∨ (∃ d, body S1 = .rt d ∧ Q (.rt d)) ∨ (∃ e S2, body S1 = .ex e S2 ∧ Q (.ex e S2)))) :
    ∀ ds S, P ds S → Q (loopM t body ds S)
  | [], S, h => h0 S h
  | d :: ds, S, h => by
    obtain ⟨S1, e1, h⟩ := h1 d ds S h
    unfold loopM
    simp only [e1]
    rcases h with ⟨S2, e2, p⟩ | ⟨S2, e2, p⟩ | ⟨r, e2, p⟩ | ⟨e, S2, e2, p⟩
    · rcases e2 with e2 | e2 <;> simp only [e2] <;> exact loop_wp P Q h0 h1 ds S2 p
    · simp only [e2]; exact p
    · simp only [e2]; exact p
    · simp only [e2]; exact p
@[simp] theorem put_one (j : Nat) (d : D) (S : List Sl) : (Tg.one j).put d S = .ok (S.set j (.fz d)) := id rfl

theorem range_split {v x : Nat} {pre post : List Nat} (h : List.range v = pre ++ x :: post) : pre.length = x ∧ x < v := by
  have h1 : x < v := List.mem_range.mp (by rw [h]; simp)
  have h2 : (List.range v)[pre.length]? = some x := by rw [h]; simp
  rw [List.getElem?_eq_some_iff] at h2
  obtain ⟨h3, h4⟩ := h2
  rw [List.getElem_range] at h4
  exact ⟨h4, h1⟩
/-- a loop that runs to its end; `I` of the items done and the state -/
theorem loop_nx {ι : Type} {t : Tg} {body : List Sl → SO} (f : ι → D) (I : List ι → List Sl → Prop) {xs : List ι} {S : List Sl}
    (h : ∀ pre x post S, xs = pre ++ x :: post → I pre S → ∃ S1 S2, t.put (f x) S = .ok S1 ∧ (body S1 = .nx S2 ∨ body S1 = .ct S2) ∧ I (pre ++ [x]) S2) (h0 : I [] S) : ∃ S', loopM t body (xs.map f) S = .nx S' ∧ I xs S' := by
  refine loop_wp (t := t) (body := body) (fun ds S => ∃ pre post, xs = pre ++ post ∧ ds = post.map f ∧ I pre S) (fun r => ∃ S', r = .nx S' ∧ I xs S') ?_ ?_ (xs.map f) S ⟨[], xs, rfl, rfl, h0⟩
  · rintro S ⟨pre, post, e1, e2, i⟩
    cases post with
    | cons _ _ => cases e2
    | nil => rw [List.append_nil] at e1; subst e1; exact ⟨S, rfl, i⟩
  · rintro d ds S ⟨pre, post, e1, e2, i⟩
    cases post with
    | nil => cases e2
    | cons x post =>
      cases e2
      obtain ⟨S1, S2, a, b, c⟩ := h pre x post S e1 i
      exact ⟨S1, a, .inl ⟨S2, b, pre ++ [x], post, by rw [e1]; simp, rfl, c⟩⟩
/-- a loop that may return -/
theorem loop_rt {ι : Type} {t : Tg} {body : List Sl → SO} (f : ι → D) (I : List ι → List Sl → Prop) (Q : List ι → ι → D → Prop) {xs : List ι} {S : List Sl}
    (h : ∀ pre x post S, xs = pre ++ x :: post → I pre S → ∃ S1, t.put (f x) S = .ok S1 ∧ ((∃ S2, (body S1 = .nx S2 ∨ body S1 = .ct S2) ∧ I (pre ++ [x]) S2) ∨ ∃ d, body S1 = .rt d ∧ Q pre x d)) (h0 : I [] S) :
    (∃ S', loopM t body (xs.map f) S = .nx S' ∧ I xs S') ∨ ∃ pre x post d, xs = pre ++ x :: post ∧ loopM t body (xs.map f) S = .rt d ∧ Q pre x d := by
  refine loop_wp (t := t) (body := body) (fun ds S => ∃ pre post, xs = pre ++ post ∧ ds = post.map f ∧ I pre S) (fun r => (∃ S', r = .nx S' ∧ I xs S') ∨ ∃ pre x post d, xs = pre ++ x :: post ∧ r = .rt d ∧ Q pre x d) ?_ ?_ (xs.map f) S ⟨[], xs, rfl, rfl, h0⟩
  · rintro S ⟨pre, post, e1, e2, i⟩
    cases post with
    | cons _ _ => cases e2
    | nil => rw [List.append_nil] at e1; subst e1; exact .inl ⟨S, rfl, i⟩
  · rintro d ds S ⟨pre, post, e1, e2, i⟩
    cases post with
    | nil => cases e2
    | cons x post =>
      cases e2
      obtain ⟨S1, a, ⟨S2, b, c⟩ | ⟨d, b, c⟩⟩ := h pre x post S e1 i
      · exact ⟨S1, a, .inl ⟨S2, b, pre ++ [x], post, by rw [e1]; simp, rfl, c⟩⟩
      · exact ⟨S1, a, .inr (.inr (.inl ⟨d, b, .inr ⟨pre, x, post, d, e1, rfl, c⟩⟩))⟩
/-! ### comprehensions -/
theorem lcM_eq {ι : Type} {t : Tg} {c : List Sl → R Bool} {m : List Sl → R D} {S : List Sl} (f g : ι → D) (p : ι → Bool) : ∀ xs : List ι, (∀ x ∈ xs, ∃ S1, t.put (f x) S = .ok S1 ∧ c S1 = .ok (p x) ∧ (p x = true → m S1 = .ok (g x))) → lcM t c m S (xs.map f) = .ok ((xs.filter p).map g)
  | [], _ => rfl
  | x :: xs, h => by
    obtain ⟨S1, a, b, d⟩ := h x (List.mem_cons_self ..)
    have ih := lcM_eq f g p xs fun y hy => h y (List.mem_cons_of_mem _ hy)
    rw [List.map_cons, lcM, a]
    simp only [R.bind_ok]
    rw [b]
    show ((R.ok (p x)).bind _) = _
    rw [R.bind_ok]
    cases e : p x with
    | true =>
      rw [if_pos rfl, d e, List.filter_cons_of_pos (by rw [e]), ih]
      rfl
    | false =>
      rw [if_neg (by decide), List.filter_cons_of_neg (by rw [e]; decide), ih]
theorem mLc_eq {ι : Type} {t : Tg} {vs : List Nat} {mi : List Sl → R (List D)} {c : List Sl → R Bool} {m : List Sl → R D} {S : List Sl} (xs : List ι) (f g : ι → D) (p : ι → Bool) (hi : mi S = .ok (xs.map f)) (hl : xs.length ≤ sizeLine)
    (h : ∀ x ∈ xs, ∃ S1, t.put (f x) (wipeS S vs) = .ok S1 ∧ c S1 = .ok (p x) ∧ (p x = true → m S1 = .ok (g x))) : mLc t vs mi c m S = .ok ((xs.filter p).map g) := by
  unfold mLc
  rw [hi, R.bind_ok, List.length_map, if_pos hl, lcM_eq f g p xs h]
theorem mLc_map {ι : Type} {t : Tg} {vs : List Nat} {mi : List Sl → R (List D)} {m : List Sl → R D} {S : List Sl} (xs : List ι) (f g : ι → D) (hi : mi S = .ok (xs.map f)) (hl : xs.length ≤ sizeLine)
    (h : ∀ x ∈ xs, ∃ S1, t.put (f x) (wipeS S vs) = .ok S1 ∧ m S1 = .ok (g x)) : mLc t vs mi mYes m S = .ok (xs.map g) := by
  have := mLc_eq (c := mYes) xs f g (fun _ => true) hi hl fun x hx => by
    obtain ⟨S1, a, b⟩ := h x hx
    exact ⟨S1, a, rfl, fun _ => b⟩
  rw [this]
  congr 1
  congr 1
  exact List.filter_eq_self.mpr fun _ _ => rfl
theorem any_map {ι : Type} (xs : List ι) (p : ι → Bool) : anyD (.lst (xs.map fun x => .bl (p x))) = .ok (.bl (xs.any p)) := by
  have : boolsD (xs.map fun x => .bl (p x)) = some (xs.map p) := by
    induction xs with
    | nil => rfl
    | cons x xs ih => rw [List.map_cons, boolsD, ih]; rfl
  unfold anyD
  simp only [this]
  congr 2
  simp [Function.comp_def]
theorem all_map {ι : Type} (xs : List ι) (p : ι → Bool) : allD (.lst (xs.map fun x => .bl (p x))) = .ok (.bl (xs.all p)) := by
  have : boolsD (xs.map fun x => .bl (p x)) = some (xs.map p) := by
    induction xs with
    | nil => rfl
    | cons x xs ih => rw [List.map_cons, boolsD, ih]; rfl
  unfold allD
  simp only [this]
  congr 2
  simp [Function.comp_def]
theorem in_aux (l : Int) (m : List Int) (b : Bool) : inSeq (.int l) (m.map D.int) b = .ok (.bl (decide (l ∈ m))) := by
  have h : (m.map D.int).all flatD = true := by
    rw [List.all_eq_true]
    intro d hd
    obtain ⟨i, _, rfl⟩ := List.mem_map.mp hd
    rfl
  unfold inSeq
  rw [if_pos (by rw [h]; rfl)]
  congr 2
  rw [List.any_map, Bool.eq_iff_iff]
  simp [Function.comp_def, eqF]
theorem in_lst (l : Int) (m : List Int) : inD (.int l) (.lst (m.map D.int)) = .ok (.bl (decide (l ∈ m))) := in_aux l m true
theorem in_tup (l : Int) (m : List Int) : inD (.int l) (.tup (m.map D.int)) = .ok (.bl (decide (l ∈ m))) := in_aux l m false
theorem rng1_eq {n : Int} (h : n < 2 ^ 62) (h2 : -(2 ^ 62) ≤ n) : rng1 [.int n] = .ok ((List.range n.toNat).map fun i : Nat => D.int (i : Int)) := by
  unfold rng1
  simp only
  rw [if_pos ⟨h2, h⟩]
  unfold rangeL
  simp
theorem rng1_nat {q : Nat} (h : q ≤ 1000000) : rng1 [.int (q : Int)] = .ok ((List.range q).map fun i : Nat => D.int (i : Int)) := by
  have := rng1_eq (n := (q : Int)) (by omega) (by omega)
  rw [Int.toNat_natCast] at this
  exact this
theorem rng2_eq {i n : Int} (h0 : -(2 ^ 62) ≤ i) (h1 : i < 2 ^ 62) (h : n < 2 ^ 62) (h2 : -(2 ^ 62) ≤ n) : rng2 [.int i, .int n] = .ok ((List.range (n - i).toNat).map fun k : Nat => D.int (i + k)) := by
  unfold rng2
  simp only
  rw [if_pos ⟨h0, h1, h2, h⟩]
  unfold rangeL
  simp
theorem mApp_eq {i : Nat} {m : List Sl → R D} {S : List Sl} {ds : List D} {d : D} (h : S[i]? = some (.ol ds)) (hm : m S = .ok d) (hl : ds.length < sizeLine) : mApp i m S = .nx (S.set i (.ol (ds ++ [d]))) := by
  unfold mApp
  rw [h]
  simp only [hm, toS_ok, if_pos hl]
theorem big : (100000 : Nat) ≤ sizeLine := by decide
theorem add_lst {xs ys : List D} (h : xs.length + ys.length ≤ sizeLine) : addD (.lst xs) (.lst ys) = .ok (.lst (xs ++ ys)) := if_pos h
theorem add_tup {xs ys : List D} (h : xs.length + ys.length ≤ sizeLine) : addD (.tup xs) (.tup ys) = .ok (.tup (xs ++ ys)) := if_pos h
@[simp] theorem s_tupL (ds : List D) : tupD (.lst ds) = .ok (.tup ds) := id rfl
@[simp] theorem s_tupT (ds : List D) : tupD (.tup ds) = .ok (.tup ds) := id rfl
@[simp] theorem s_itemsL (ds : List D) : itemsD (.lst ds) = .ok ds := id rfl
@[simp] theorem s_itemsT (ds : List D) : itemsD (.tup ds) = .ok ds := id rfl
@[simp] theorem s_lstL (ds : List D) : lstD (.lst ds) = .ok ds := id rfl
@[simp] theorem s_lstT (ds : List D) : lstD (.tup ds) = .ok ds := id rfl
@[simp] theorem s_onN (g : D → R (List D)) (x : D) : onN g [x] = g x := id rfl
@[simp] theorem s_mFrz0 (ds : List D) (S : List Sl) : mFrz 0 (.ol ds :: S) = .nx (.fz (.lst ds) :: S) := id rfl
theorem mFrz_l {i : Nat} {S : List Sl} {ds : List D} (h : S[i]? = some (.ol ds)) : mFrz i S = .nx (S.set i (.fz (.lst ds))) := by unfold mFrz; rw [h]
theorem mFrz_d {i : Nat} {S : List Sl} {ds : List (Int × D)} (h : S[i]? = some (.od ds)) : mFrz i S = .nx (S.set i (.fz (.dct ds))) := by unfold mFrz; rw [h]
theorem mFrz_f {i : Nat} {S : List Sl} {d : D} (h : S[i]? = some (.fz d)) : mFrz i S = .nx S := by unfold mFrz; rw [h]
/-- a statement, and what comes after it -/
theorem seq_nx {a b : List Sl → SO} {S S1 : List Sl} {r : SO} (h : a S = .nx S1) (h2 : b S1 = r) : mSeq a b S = r := by rw [s_mSeq, h]; exact h2
theorem seq_rt {a b : List Sl → SO} {S : List Sl} {d : D} (h : a S = .rt d) : mSeq a b S = .rt d := by rw [s_mSeq, h]
theorem run_rt {n np : Nat} {m : List Sl → SO} {ds : List D} {d : D} (h : m (ds.map Sl.fz ++ List.replicate (n - np) Sl.un) = .rt d) : runDef n np m ds = .ok d := by unfold runDef; rw [h]
theorem run_nx {n np : Nat} {m : List Sl → SO} {ds : List D} {S : List Sl} (h : m (ds.map Sl.fz ++ List.replicate (n - np) Sl.un) = .nx S) : runDef n np m ds = .ok .non := by unfold runDef; rw [h]

/-! ### the script's cells -/
def mCell : List Sl → SO :=
  (mSeq (mIfS (fun S => ((getV 0) S).bind trD) (mRet (m2 ixD (getV 0) (m2 modD (getV 1) (fun S => ((aCons (getV 0) aNil) S).bind (on1 lenD))))) mSkip) (mRet (cst (.int 0))))
def cellZ (ns : List Int) (k : Int) : Int := if ns = [] then 0 else match atI ns (k % ns.length) with
  | some x => x
  | none => 0
theorem cell_eq (ns : List Int) (k : Int) : runDef 2 2 mCell [.scr ns, .int k] = .ok (.int (cellZ ns k)) := by
  cases ns with
  | nil => rfl
  | cons n ns =>
    have h0 : (0 : Int) < ((n :: ns).length : Int) := by simp [Int.natCast_add] <;> omega
    have h1 := Int.emod_nonneg k (Int.ne_of_gt h0)
    have h2 := Int.emod_lt_of_pos k h0
    have e := atI_lt (xs := n :: ns) h1 h2
    simp only [runDef, mCell, s_mSeq, s_mIfS, s_mRet, List.map_cons, List.map_nil, Nat.sub_self, List.replicate_zero, List.append_nil, s_getV0, s_getVs, R.bind_ok, s_trSc, List.isEmpty_cons, Bool.not_false, toSL_ok, if_true, s_m2, s_aCons, s_aNil, s_on1, s_lenSc, modI h0, s_ixSc, e, Option.map_some, s_optS, toS_ok, cellZ, reduceCtorEq, if_false]
def mMix (f : List D → R D) : List Sl → SO :=
  (mSeq (mSet 2 (m2 modD (m2 addD (fun S => ((aCons (getF 0) (aCons (getF 1) aNil)) S).bind f) (m2 mulD (cst (.int 104729)) (m2 addD (getV 1) (cst (.int 1))))) (cst (.int 4294967291)))) (mSeq (mSet 2 (m2 modD (m2 mulD (getV 2) (cst (.int 48271))) (cst (.int 4294967279)))) (mRet (m2 modD (m2 addD (m2 mulD (m2 fdivD (getV 2) (cst (.int 64))) (cst (.int 69621))) (getV 2)) (cst (.int 4294967231))))))
def mixA (ns : List Int) (k : Int) : Int := (cellZ ns k + 104729 * (k + 1)) % 4294967291 * 48271 % 4294967279
def mixZ (ns : List Int) (k : Int) : Int := (mixA ns k / 64 * 69621 + mixA ns k) % 4294967231
theorem mix_eq (ns : List Int) (k : Int) : runDef 3 2 (mMix (runDef 2 2 mCell)) [.scr ns, .int k] = .ok (.int (mixZ ns k)) := by
  simp only [runDef, mMix]
  simp [cell_eq, modI, mulL, mulR, fdivI, mixZ, mixA]
theorem mix_lo (ns : List Int) (k : Int) : 0 ≤ mixZ ns k := Int.emod_nonneg _ (by decide)
theorem mix_hi (ns : List Int) (k : Int) : mixZ ns k < 4294967231 := Int.emod_lt_of_pos _ (by decide)
end DL
/-! Truths, clauses, formulas: no program in sight. -/
namespace DL
open PySem L2

abbrev Asg := Nat → Bool
/-- what a literal is -/
def lt (σ : Asg) (l : Int) : Bool := if 0 < l then σ l.natAbs else !(σ l.natAbs)
def ct (σ : Asg) (c : List Int) : Bool := c.any (lt σ)
def ft (σ : Asg) (f : List (List Int)) : Bool := f.all (ct σ)
def litOk (v : Nat) (l : Int) : Prop := 1 ≤ l.natAbs ∧ l.natAbs ≤ v
def InR (v : Nat) (c : List Int) : Prop := ∀ l ∈ c, litOk v l
def sg (σ : Asg) (k : Nat) : Int := if σ k then (k : Int) else -(k : Int)
/-- the truths of 1..v as literals -/
def asg (v : Nat) (σ : Asg) : List Int := (List.range v).map fun k => sg σ (k + 1)
theorem asg_len (v : Nat) (σ : Asg) : (asg v σ).length = v := by simp [asg]
theorem lt_sg {σ : Asg} {l : Int} (h : l ≠ 0) : lt σ l = true ↔ l = sg σ l.natAbs := by
  unfold lt sg
  by_cases p : 0 < l
  · rw [if_pos p]
    have e : ((l.natAbs : Nat) : Int) = l := by omega
    cases σ l.natAbs
    · simp [e]; omega
    · simp [e]
  · rw [if_neg p]
    have e : ((l.natAbs : Nat) : Int) = -l := by omega
    cases σ l.natAbs
    · simp [e]
    · simp [e]; omega
theorem mem_asg {v : Nat} {σ : Asg} {l : Int} (h : litOk v l) : decide (l ∈ asg v σ) = lt σ l := by
  rw [Bool.eq_iff_iff, decide_eq_true_iff, lt_sg (by have := h.1; omega)]
  unfold asg
  rw [List.mem_map]
  constructor
  · rintro ⟨k, hk, e⟩
    have : l.natAbs = k + 1 := by
      rw [← e]; unfold sg; split <;> omega
    rw [this, e]
  · intro e
    exact ⟨l.natAbs - 1, List.mem_range.mpr (by have := h.1; have := h.2; omega), by rw [show l.natAbs - 1 + 1 = l.natAbs from by have := h.1; omega]; exact e.symm⟩
theorem any_asg {v : Nat} {σ : Asg} {c : List Int} (h : InR v c) : (c.any fun l => decide (l ∈ asg v σ)) = ct σ c := by
  unfold ct
  rw [Bool.eq_iff_iff, List.any_eq_true, List.any_eq_true]
  constructor
  · rintro ⟨l, hl, e⟩; exact ⟨l, hl, by rw [← mem_asg (h l hl)]; exact e⟩
  · rintro ⟨l, hl, e⟩; exact ⟨l, hl, by rw [mem_asg (h l hl)]; exact e⟩
/-- truths alike on 1..v -/
theorem asg_ext {v : Nat} {σ τ : Asg} (h : ∀ k, 1 ≤ k → k ≤ v → σ k = τ k) : asg v σ = asg v τ := by
  unfold asg
  refine List.map_congr_left fun k hk => ?_
  have := List.mem_range.mp hk
  unfold sg
  rw [h (k + 1) (by omega) (by omega)]
theorem ct_ext {v : Nat} {σ τ : Asg} (h : ∀ k, 1 ≤ k → k ≤ v → σ k = τ k) {c : List Int} (hc : InR v c) : ct σ c = ct τ c := by
  unfold ct
  rw [Bool.eq_iff_iff, List.any_eq_true, List.any_eq_true]
  have e : ∀ l ∈ c, lt σ l = lt τ l := fun l hl => by
    unfold lt
    rw [h _ (hc l hl).1 (hc l hl).2]
  constructor
  · rintro ⟨l, hl, q⟩; exact ⟨l, hl, by rw [← e l hl]; exact q⟩
  · rintro ⟨l, hl, q⟩; exact ⟨l, hl, by rw [e l hl]; exact q⟩
theorem ft_ext {v : Nat} {σ τ : Asg} (h : ∀ k, 1 ≤ k → k ≤ v → σ k = τ k) {f : List (List Int)} (hf : ∀ c ∈ f, InR v c) : ft σ f = ft τ f := by
  unfold ft
  rw [Bool.eq_iff_iff, List.all_eq_true, List.all_eq_true]
  constructor
  · intro q c hc; rw [← ct_ext h (hf c hc)]; exact q c hc
  · intro q c hc; rw [ct_ext h (hf c hc)]; exact q c hc
/-! ### all truths by numbers -/
/-- of a number: the lowest bit says what 1 is -/
def ofB (n : Nat) : Asg := fun k => decide (n / 2 ^ (k - 1) % 2 = 1)
/-- of a number: the highest of v bits says what 1 is -/
def ofS (v n : Nat) : Asg := fun k => decide (n / 2 ^ (v - k) % 2 = 1)
theorem ofB_ex (σ : Asg) : ∀ v, ∃ n, n < 2 ^ v ∧ ∀ k, 1 ≤ k → k ≤ v → ofB n k = σ k
  | 0 => ⟨0, by decide, fun k h1 h2 => by omega⟩
  | v + 1 => by
    obtain ⟨n, hn, h⟩ := ofB_ex σ v
    have key : ∀ b : Nat, b ≤ 1 → ∀ k, 1 ≤ k → k ≤ v → (n + b * 2 ^ v) / 2 ^ (k - 1) % 2 = n / 2 ^ (k - 1) % 2 := by
      intro b hb k h1 h2
      have : b * 2 ^ v = 2 ^ (k - 1) * (2 * (b * 2 ^ (v - k))) := by
        have e : v = (k - 1) + 1 + (v - k) := by omega
        conv => lhs; rw [e, Nat.pow_add, Nat.pow_add]
        simp [Nat.mul_comm, Nat.mul_left_comm, Nat.mul_assoc]
      rw [this, Nat.add_mul_div_left _ _ (Nat.two_pow_pos _), Nat.add_mul_mod_self_left]
    have top : ∀ b : Nat, b ≤ 1 → (n + b * 2 ^ v) / 2 ^ v % 2 = b := by
      intro b hb
      rw [Nat.add_mul_div_right _ _ (Nat.two_pow_pos _), Nat.div_eq_of_lt hn, Nat.zero_add, Nat.mod_eq_of_lt (by omega)]
    refine ⟨n + (if σ (v + 1) then 1 else 0) * 2 ^ v, ?_, fun k h1 h2 => ?_⟩
    · rw [Nat.pow_succ]
      split <;> omega
    · by_cases hk : k ≤ v
      · rw [← h k h1 hk]
        unfold ofB
        rw [key _ (by split <;> decide) k h1 hk]
      · have : k = v + 1 := by omega
        subst this
        unfold ofB
        rw [Nat.add_sub_cancel, top _ (by split <;> decide)]
        cases σ (v + 1) <;> simp
theorem ofS_ex (σ : Asg) (v : Nat) : ∃ n, n < 2 ^ v ∧ ∀ k, 1 ≤ k → k ≤ v → ofS v n k = σ k := by
  obtain ⟨n, hn, h⟩ := ofB_ex (fun k => σ (v + 1 - k)) v
  refine ⟨n, hn, fun k h1 h2 => ?_⟩
  have := h (v + 1 - k) (by omega) (by omega)
  unfold ofB at this
  unfold ofS
  rw [show v + 1 - k - 1 = v - k from by omega, show v + 1 - (v + 1 - k) = k from by omega] at this
  exact this
theorem all_ofS {v : Nat} {P : Asg → Bool} (hP : ∀ σ τ, (∀ k, 1 ≤ k → k ≤ v → σ k = τ k) → P σ = P τ) : (List.range (2 ^ v)).all (fun n => P (ofS v n)) = true ↔ ∀ σ, P σ = true := by
  rw [List.all_eq_true]
  constructor
  · intro h σ
    obtain ⟨n, hn, e⟩ := ofS_ex σ v
    rw [← hP _ _ e]
    exact h n (List.mem_range.mpr hn)
  · intro h n _
    exact h _
theorem all_ofB {v : Nat} {P : Asg → Bool} (hP : ∀ σ τ, (∀ k, 1 ≤ k → k ≤ v → σ k = τ k) → P σ = P τ) : (List.range (2 ^ v)).all (fun n => P (ofB n)) = true ↔ ∀ σ, P σ = true := by
  rw [List.all_eq_true]
  constructor
  · intro h σ
    obtain ⟨n, hn, e⟩ := ofB_ex σ v
    rw [← hP _ _ e]
    exact h n (List.mem_range.mpr hn)
  · intro h n _
    exact h _
/-! ### as data -/
def cD (c : List Int) : D := .tup (c.map D.int)
def fD (f : List (List Int)) : D := .lst (f.map cD)
theorem py_ints : ∀ c : List Int, PyData.canLayAll0 (toPyA (c.map D.int)) = true ∧ PyData.depthAll (toPyA (c.map D.int)) = 0
  | [] => ⟨rfl, rfl⟩
  | i :: c => by
    obtain ⟨h1, h2⟩ := py_ints c
    constructor
    · show (PyData.canLay0 (.int i) && PyData.canLayAll0 (toPyA (c.map D.int))) = true
      rw [h1]; simp only [PyData.canLay0]; rfl
    · show max (PyData.depth (.int i)) (PyData.depthAll (toPyA (c.map D.int))) = 0
      rw [h2]; simp only [PyData.depth]; rfl
theorem py_cls : ∀ f : List (List Int), PyData.canLayAll0 (toPyA (f.map cD)) = true ∧ PyData.depthAll (toPyA (f.map cD)) ≤ 1
  | [] => ⟨rfl, Nat.zero_le _⟩
  | c :: f => by
    obtain ⟨h1, h2⟩ := py_cls f
    obtain ⟨h3, h4⟩ := py_ints c
    constructor
    · show (PyData.canLay0 (.tuple (toPyA (c.map D.int))) && PyData.canLayAll0 (toPyA (f.map cD))) = true
      rw [h1]; simp only [PyData.canLay0, h3]; rfl
    · show max (PyData.depth (.tuple (toPyA (c.map D.int)))) (PyData.depthAll (toPyA (f.map cD))) ≤ 1
      simp only [PyData.depth, h4]; omega
theorem ok_ints (c : List Int) : okPy (.lst (c.map D.int)) = true := by
  obtain ⟨h3, h4⟩ := py_ints c
  show (PyData.canLay0 (.list (toPyA (c.map D.int))) && decide (PyData.depth (.list (toPyA (c.map D.int))) ≤ 64)) = true
  simp only [PyData.canLay0, PyData.depth, h3, h4]; decide
theorem ok_cD (c : List Int) : okPy (cD c) = true := by
  obtain ⟨h3, h4⟩ := py_ints c
  show (PyData.canLay0 (.tuple (toPyA (c.map D.int))) && decide (PyData.depth (.tuple (toPyA (c.map D.int))) ≤ 64)) = true
  simp only [PyData.canLay0, PyData.depth, h3, h4]; decide
theorem ok_fD (f : List (List Int)) : okPy (fD f) = true := by
  obtain ⟨h3, h4⟩ := py_cls f
  show (PyData.canLay0 (.list (toPyA (f.map cD))) && decide (PyData.depth (.list (toPyA (f.map cD))) ≤ 64)) = true
  rw [Bool.and_eq_true, decide_eq_true_iff]
  constructor
  · simp only [PyData.canLay0, h3]
  · simp only [PyData.depth]; omega
theorem eqv_ints : ∀ c d : List Int, PyData.eqvAll (toPyA (c.map D.int)) (toPyA (d.map D.int)) = decide (c = d)
  | [], [] => rfl
  | [], _ :: _ => by simp only [List.map_nil, List.map_cons, toPyA, PyData.eqvAll]; rfl
  | _ :: _, [] => by simp only [List.map_nil, List.map_cons, toPyA, PyData.eqvAll]; rfl
  | i :: c, j :: d => by
    simp only [List.map_cons, toPyA, PyData.eqvAll, toPy, PyData.eqv, eqv_ints c d]
    rw [Bool.eq_iff_iff]
    simp
theorem eqv_cls : ∀ f g : List (List Int), PyData.eqvAll (toPyA (f.map cD)) (toPyA (g.map cD)) = decide (f = g)
  | [], [] => rfl
  | [], _ :: _ => by simp only [List.map_nil, List.map_cons, toPyA, PyData.eqvAll]; rfl
  | _ :: _, [] => by simp only [List.map_nil, List.map_cons, toPyA, PyData.eqvAll]; rfl
  | c :: f, d :: g => by
    have ih := eqv_cls f g
    have e : PyData.eqv (toPy (cD c)) (toPy (cD d)) = decide (c = d) := by
      show PyData.eqv (.tuple (toPyA (c.map D.int))) (.tuple (toPyA (d.map D.int))) = _
      simp only [PyData.eqv, eqv_ints c d]
    rw [List.map_cons, List.map_cons]
    simp only [toPyA, PyData.eqvAll]
    rw [ih, e, Bool.eq_iff_iff]
    simp
@[simp] theorem eq_cD (c d : List Int) : eqD (cD c) (cD d) = .ok (.bl (decide (c = d))) := by
  show (if (okPy (cD c) && okPy (cD d)) = true then R.ok (D.bl (eqvD (cD c) (cD d))) else .bad) = _
  rw [ok_cD, ok_cD, if_pos (show (true && true) = true from rfl)]
  congr 2
  exact eqv_ints c d
@[simp] theorem eq_fD (c d : List (List Int)) : eqD (fD c) (fD d) = .ok (.bl (decide (c = d))) := by
  show (if (okPy (fD c) && okPy (fD d)) = true then R.ok (D.bl (eqvD (fD c) (fD d))) else .bad) = _
  rw [ok_fD, ok_fD, if_pos (show (true && true) = true from rfl)]
  congr 2
  exact eqv_cls c d
@[simp] theorem eq_iD (c d : List Int) : eqD (.lst (c.map D.int)) (.lst (d.map D.int)) = .ok (.bl (decide (c = d))) := by
  show (if (okPy (.lst (c.map D.int)) && okPy (.lst (d.map D.int))) = true then R.ok (D.bl (eqvD (.lst (c.map D.int)) (.lst (d.map D.int)))) else .bad) = _
  rw [ok_ints, ok_ints, if_pos (show (true && true) = true from rfl)]
  congr 2
  exact eqv_ints c d
def models (v : Nat) (f : List (List Int)) : List (List Int) := ((List.range (2 ^ v)).map fun n => asg v (ofS v n)).filter fun m => f.all fun c => c.any fun l => decide (l ∈ m)
theorem models_all {v : Nat} {f : List (List Int)} (hf : ∀ c ∈ f, InR v c) (c : List Int) (hc : InR v c) : (models v f).all (fun m => c.any fun l => decide (l ∈ m)) = true ↔ ∀ σ, ft σ f = true → ct σ c = true := by
  have e : (models v f).all (fun m => c.any fun l => decide (l ∈ m)) = (List.range (2 ^ v)).all (fun n => !(ft (ofS v n) f) || ct (ofS v n) c) := by
    unfold models
    rw [List.all_filter, List.all_map]
    congr 1
    funext n
    simp only [Function.comp_def]
    rw [any_asg hc]
    congr 2
    unfold ft
    rw [Bool.eq_iff_iff, List.all_eq_true, List.all_eq_true]
    constructor
    · intro q d hd; rw [← any_asg (hf d hd)]; exact q d hd
    · intro q d hd; rw [any_asg (hf d hd)]; exact q d hd
  rw [e, all_ofS (P := fun σ => !(ft σ f) || ct σ c) fun σ τ h => by rw [ft_ext h hf, ct_ext h hc]]
  constructor
  · intro h σ hs
    have := h σ
    rw [hs] at this
    exact this
  · intro h σ
    cases hs : ft σ f with
    | false => rfl
    | true => rw [h σ hs]; rfl
end DL
set_option maxHeartbeats 2000000
namespace PySem
namespace LowX_NotRight
open PySem.W PySem.Calls PyProof.Rows PySem.HandSPX
def iA (p1 p2 : Pos) : Arguments := { posonlyargs := [], args := [{ arg := "self", annotation := none, pos := p1 }, { arg := "place", annotation := none, pos := p2 }], vararg := none, kwonlyargs := [], kw_defaults := [], kwarg := none, defaults := [] }
def iB (q1 q2 q3 q4 : Pos) : List Stmt := [.Assign [.Attribute (.Name "self" q1) "place" q2] (.Name "place" q3) q4]
def iS : Scope := { kind := .function, names := [(PySem.Str.ofString "self", .local), (PySem.Str.ofString "place", .local)], isGenerator := false, isCoroutine := false, more := [] }
structure LowTxt (K : Frag) (mg : Str → Option Value) (C fI : Addr) : Prop where
  gC : mg "NotRight" = some (.ref C)
  cls : ∃ nm q N bs bm sn sub ab col dd k0 k1 k2 k3 k5, K.lookup C = some (excClassObj nm q C N bs bm true sn sub ab col dd k0 k1 k2 k3 k5 "ValueError.__new__") ∧ refsVE bm = true
  sa : findIn K (.ref C) "__setattr__" = some (some (.builtin "object.__setattr__"))
  ga : findIn K (.ref C) "__getattribute__" = some (some (.builtin "BaseException.__getattribute__"))
  gg : findIn K (.ref C) "__getattr__" = some none
  noN : findIn K (.ref C) "place" = some none
  iC : findIn K (.ref C) "__init__" = some (some (.ref fI))
  tC : typeIn K (.ref fI) = some (.type "function")
  kC : keepIn K (.ref C) = true
  exC : subIn K (.ref C) (.type "BaseException") = some true
  tyC : typeIn K (.ref C) = some (.type "type")
  hdC : hasDictIn K C = true
  fn : ∃ (oc : Value) (od : Option Addr) (doc pm : Value) (an : Option Addr) (cdv ct : Value) (osl : Array (Option Value)) (p1 p2 q1 q2 q3 q4 : Pos),
    K.lookup fI = some ⟨oc, od, .func (fnOf "__init__" "NotRight.__init__" (iA p1 p2) (iB q1 q2 q3 q4) iS .none .none doc pm an cdv ct), osl⟩ ∧ codeIn K cdv "NotRight.__init__" = true
theorem one_size (v : Value) : [v].length ≤ sizeLine := by
  rw [sizeLine_eq]
  exact (by decide : 1 ≤ 16777216)
theorem kept_but {K : Frag} {h h' : Heap} {x : Addr} (X : K.In h) (hx : K.lookup x = none) (k : ∀ b o, b ≠ x → h.get? b = some o → h'.get? b = some o) : K.In h' := fun a o e =>
  k a o (fun z => by rw [z, hx] at e; cases e) (X a o e)
theorem ldC {M : Model} {s : Shared} {name : Str} {scope : Scope} {L a : Addr} {cd : Value} {m : Str → Option Value} {x : Str} {pos : Pos} {v : Value} {Q : Value → Shared → Prop} {A : Around} {E : Value → Shared → Prop} (hn : s.heap.Ns L m) (hv : m x = some v) (h : Q v s)
    (hk : scope.kind = .function := by rfl) (hl : (envOfC name scope L a cd).kindOf x = some .local := by rfl) (hd : (x == ("__debug__" : Str)) = false := by decide) :
    wpAny M A (eval (.Name x pos) (envOfC name scope L a cd)) Q E s := wpAny_Name (wpAny_loadName_local hk hl hn hv h) hd
structure InitEnd (h h' : Heap) (x C dx t1 : Addr) (v : Value) : Prop where
  keep : ∀ b o, b ≠ x → h.get? b = some o → h'.get? b = some o
  obj : h'.get? x = some { cls := .ref C, dict := some dx, data := .fields #[.ref t1, .none, .none, .none, .bool false, .none] }
  dbig : h.objs.size ≤ dx
  dne : dx ≠ x
  ns : h'.Ns1 dx (fun y => if y = "place" then some v else none)
structure OwnMade (h h' : Heap) (e C d : Addr) (v : Value) : Prop where
  keep : ∀ b o, h.get? b = some o → h'.get? b = some o
  new : h.objs.size ≤ e
  obj : ∃ oe vs, h'.get? e = some oe ∧ oe.cls = .ref C ∧ oe.dict = some d ∧ oe.data = .fields vs ∧ vs[1]? = some .none
  dbig : h.objs.size ≤ d
  dne : d ≠ e
  ns : h'.Ns1 d (fun y => if y = "place" then some v else none)
section
variable {prog : Program} {w : World} {A : Around} {E : Value → Shared → Prop} {R : Result → Shared → Prop} {s : Shared} {K : Frag} {mg : Str → Option Value} {C fI : Addr}
theorem low_init (T : LowTxt K mg C fI) {x t0 : Addr} {v : Value} (X : K.In s.heap) (hlim : s.heap.NoLimit) (hx : s.heap.get? x = some (excO C t0)) (hnx : K.lookup x = none) (hroom : A.depth < recursionLimit)
    (hq : ∀ h' tk dx, InitEnd s.heap h' x C dx t0 v → R (.ok (.ret .none)) { s with heap := h', toks := tk }) :
    codeAny (model prog w) A (.call (.ref fI) ⟨[.ref x, v], []⟩) R s := by
  obtain ⟨oc, od, doc, pm, an, cdv, ct, osl, p1, p2, q1, q2, q3, q4, ho, hcd⟩ := T.fn
  obtain ⟨nm, q, N, bs, bm, sn, sub, ab, col, dd, k0, k1, k2, k3, k5, hC, hbm⟩ := T.cls
  have hcl : clsIn K C = some { name := nm, bases := bs, mro := .ref C :: bm, ns := N, qualname := q, hasDict := true, slotNames := sn, subclasses := sub, abstract := ab, collection := col, hasDel := false } := by unfold clsIn; rw [hC] <;> rfl
  refine Att.call_fn (binds := [("self", .ref x), ("place", v)]) X hlim ho hcd hroom (BindsTo.of_eq (by first | rfl | with_unfolding_all rfl)) (by first | rfl | decide | with_unfolding_all rfl) (fun s₁ IC => ?_) rfl rfl rfl
  obtain ⟨h₁, tk₁, rfl⟩ := IC.toInCall.same
  have k : ∀ b o, s.heap.get? b = some o → h₁.get? b = some o := IC.toInCall.keep
  have hn := IC.toInCall.ns
  have hxL : s.heap.objs.size ≠ x := Nat.ne_of_gt (Heap.lt_size hx)
  have X₁ : K.In h₁ := X.keeps k
  have hx₁ := k _ _ hx
  -- self.by = by
  show wpAny _ _ (execs _ _) _ _ _
  refine wpAny_execs_cons (plainObj_wpAny_Assign_Attribute ?_)
  refine ldC (v := v) hn (by first | rfl | with_unfolding_all rfl | kernel_rfl) (ldC (v := .ref x) hn (by first | rfl | with_unfolding_all rfl | kernel_rfl) ?_)
  refine set_plain X₁ (ox := excO C t0) (od := none) ⟨hx₁, rfl, rfl, trivial⟩ T.sa ?_
  refine exc_osa X₁ hx₁ hcl (show refsVE (.ref C :: bm) = true from hbm) rfl T.noN (fun h₃ tk₃ dx k₃ dn dne hx₃ hn₃ => ?_)
  show wpAny _ _ (execs _ _) _ _ _
  have z : s.heap.objs.size < h₁.objs.size := hn.lt
  exact wpAny_execs_nil (hq h₃ tk₃ dx ⟨fun b o hb e => k₃ b o hb (k b o e), hx₃, Nat.le_of_lt (Nat.lt_of_lt_of_le z dn), dne, hn₃⟩)
theorem low_made (T : LowTxt K mg C fI) {v : Value} (X : K.In s.heap) (hlim : s.heap.NoLimit) (hroom : A.depth + 1 < recursionLimit)
    (hq : ∀ h' tk e d, OwnMade s.heap h' e C d v → R (.ok (.ret (.ref e))) { s with heap := h', toks := tk }) :
    codeAny (model prog w) A (.call (.ref C) ⟨[v], []⟩) R s := by
  obtain ⟨nm, q, N, bs, bm, sn, sub, ab, col, dd, k0, k1, k2, k3, k5, hC, hbm⟩ := T.cls
  obtain ⟨hp, g, dr, tk, os⟩ := s
  have k : ∀ b o, hp.get? b = some o → ((hp.push (kdv_tup [v])).push (excO C hp.objs.size)).get? b = some o := fun b o e => Heap.get?_push_of_some _ (Heap.get?_push_of_some _ e)
  have hget : ((hp.push (kdv_tup [v])).push (excO C hp.objs.size)).get? (hp.objs.size + 1) = some (excO C hp.objs.size) := by heap_get
  have hnx : K.lookup (hp.objs.size + 1) = none := by
    cases e : K.lookup (hp.objs.size + 1) with
    | none => rfl
    | some o =>
      have z : hp.get? (hp.objs.size + 1) = some o := X _ _ e
      exact absurd (Nat.lt_of_succ_lt (Heap.lt_size z)) (Nat.lt_irrefl _)
  refine call_own F.excBase_ValueError (fun X => refsVE_contains X bm hbm) (X _ _ hC) (looks_findIn X T.iC) (fun self => bind_fn X self T.tC) (one_size v) ?_
  refine low_init (s := ⟨(hp.push (kdv_tup [v])).push (excO C hp.objs.size), g, dr, tk, os⟩) T (X.keeps k) (hlim.keeps k) hget hnx ?_ fun h' tk' dx ⟨k', hx, dn, dne, hns⟩ => ?_
  · show A.depth + 1 < recursionLimit
    exact hroom
  · have old : ∀ b o, hp.get? b = some o → h'.get? b = some o := fun b o e => k' b o (Nat.ne_of_lt (Nat.lt_succ_of_lt (Heap.lt_size e))) (k b o e)
    have z : hp.objs.size + 1 + 1 ≤ dx := by
      first
        | (simpa only [Heap.size_push] using dn)
        | exact dn
        | (have q := dn; rw [Heap.size_push, Heap.size_push] at q; exact q)
    exact ⟨rfl, hq h' tk' (hp.objs.size + 1) dx ⟨old, Nat.le_succ _, ⟨_, _, hx, rfl, rfl, rfl, rfl⟩, Nat.le_trans (Nat.le_trans (Nat.le_succ _) (Nat.le_succ _)) z, dne, hns⟩⟩
end
end LowX_NotRight
end PySem
namespace L2
open PySem PySem.Spec PyProof.Rows
theorem relO_low_NotRight {v : V} {v' : Value} (r : RelV v v') (f : Str) : RelO (List.lookup f [(("place" : Str), v)]) (if f = "place" then some v' else none) := by
  by_cases hw : f = "place"
  · subst hw
    rw [if_pos rfl]
    have q : List.lookup ("place" : Str) [(("place" : Str), v)] = some v := by simp [List.lookup]
    rw [q]
    exact r
  · rw [if_neg hw]
    have qw : (f == ("place" : Str)) = false := by simpa using hw
    have q2 : List.lookup f [(("place" : Str), v)] = none := by simp [List.lookup, qw]
    rw [q2]
    trivial
section
variable {X : Cx} {C fI : Addr}
def tMkLow_NotRight (C : Addr) (ta : TA) : St → Hp → XK → Prop := fun σ H Q => ta σ H fun vs H1 => ∃ v, vs = [v] ∧ ∀ d, H1 d = none → Q (.ref C) (some d) (upd H1 d (.xd [(("place" : Str), v)]))
theorem pmk_low_NotRight {a : Expr} {ta : TA} {p pos : Pos} {k : Nat} (T : PySem.LowX_NotRight.LowTxt X.K X.mg C fI) (hr : Room k X.A) (ha : PA X [a] ta) (hg : Gl X "NotRight" := by rfl)
    (he : starEach (a :: []) X.env = (false, eval a X.env) :: starEach [] X.env := by rfl) (hpl : (backTo pos (starEach [] X.env)).any (·.1) = false := by rfl) :
    PMk X (.Call (.Name "NotRight" p) [a] [] pos) (tMkLow_NotRight C ta) := by
  intro pins s σ H Q I h
  refine wpAny_Call_Name_kw (ld_glob I hg T.gC ?_)
  refine PySem.W.callWith_K (h₀ := X.base) I.ok.mod.kin T.kC (thn (ha.run pos pins s σ H _ I h) fun us s1 hh => ?_) he hpl
  obtain ⟨vs, H1, I1, r1, v, ev, q1⟩ := hh
  subst ev
  refine ⟨I1.kIn, ?_⟩
  cases r1 with
  | cons rv rn =>
    rename_i v' us'
    cases rn
    show wpAny _ _ (call (.ref C) [v']) _ _ _
    have hlim := I1.nolimit
    obtain ⟨hp, g, dr, tk, os⟩ := s1
    refine wpAny_call (PySem.LowX_NotRight.low_made T I1.kIn hlim (by have := hr.dp; omega) fun h' tk' e d M => ?_)
    show MkP X pins σ Q (.ref e) ⟨h', g, dr, tk', os⟩
    obtain ⟨oe, fv, hoe, hc, hd, hdat, h1⟩ := M.obj
    have hns := M.ns
    obtain ⟨G', g1, g2⟩ := restrict h' fun b => decide (b ≠ e)
    have gk : ∀ b, b ≠ e → G'.get? b = h'.get? b := fun b hb => g1 b (decide_eq_true hb)
    have ge : G'.get? e = none := g2 e (by simp)
    have old : ∀ b o, hp.get? b = some o → G'.get? b = some o := fun b o q => (gk b (Nat.ne_of_lt (Nat.lt_of_lt_of_le (Heap.lt_size q) M.new))).trans (M.keep b o q)
    have ob : ObjOk X.prog X.w (upd H1 d (.xd [(("place" : Str), v)])) G' d (.xd [(("place" : Str), v)]) :=
      ⟨_, hns.at (fun o q => (gk d M.dne).trans q), fun f => relO_low_NotRight rv f⟩
    have J : Inv X pins σ (upd H1 d (.xd [(("place" : Str), v)])) ⟨G', g, dr, tk', os⟩ := I1.laid (t' := tk') old M.dbig ob
    refine ⟨e, oe, fv, ⟨G', g, dr, tk', os⟩, _, .ref C, some d, rfl, J, fun b o q => ?_, ge, hoe, ⟨hc, hd⟩, hdat, h1, ?_, rfl, I1.bare, raises_own T.exC T.tyC, q1 d (I1.hok.fresh M.dbig)⟩
    · by_cases hb : b = e
      · have q' : G'.get? b = some o := q
        rw [hb, ge] at q'; cases q'
      · exact (gk b hb).symm.trans q
    · rw [upd_ne (Ne.symm M.dne)]
      exact I1.hok.fresh M.new
def tRaiseLow_NotRight (C : Addr) (W : WX) (ta : TA) : TS := fun _ σ H => tMkLow_NotRight C ta σ H fun cls d H' => W cls d σ H'
theorem ps_raiseLow_NotRight {a : Expr} {ta : TA} {W : WX} {p pos pos2 : Pos} {k : Nat} (hc : X.calm = true) (T : PySem.LowX_NotRight.LowTxt X.K X.mg C fI) (hr : Room k X.A) (tk : Takes X W) (ha : PA X [a] ta) (hg : Gl X "NotRight" := by rfl)
    (he : starEach (a :: []) X.env = (false, eval a X.env) :: starEach [] X.env := by rfl) (hpl : (backTo pos (starEach [] X.env)).any (·.1) = false := by rfl) :
    PS X (.Raise (some (.Call (.Name "NotRight" p) [a] [] pos)) none pos2) (tRaiseLow_NotRight C W ta) := ps_raise hc tk (pmk_low_NotRight T hr ha hg he hpl)
def tByLow_NotRight (C : Addr) (a : Addr) (cls : Value) (d : Option Addr) (te : TE) : TE := fun σ H Q => te σ H fun x H1 => x = .ref a ∧ cls = .ref C ∧ ∃ (dd : Addr) (v : V), d = some dd ∧ H1 dd = some (.xd [(("place" : Str), v)]) ∧ Q v H1
theorem pe_byLow_NotRight {a : Addr} {oe : Obj} {cls : Value} {d : Option Addr} {pn : List (Addr × Obj)} {e : Expr} {te : TE} {pos : Pos} (T : PySem.LowX_NotRight.LowTxt X.K X.mg C fI) (hz : Zc cls d oe) (hf : ∃ vs, oe.data = .fields vs) (he : PE (X.suite a ((a, oe) :: pn)) e te)
    (hb : attributeBase e "place" X.env (eval e X.env) = eval e X.env := by rfl) :
    PE (X.suite a ((a, oe) :: pn)) (.Attribute e "place" pos) (tByLow_NotRight C a cls d te) := by
  refine ⟨fun pins s σ H Q I h => ?_⟩
  refine attr_of hb (thn (he.run pins s σ H _ I h) fun u s1 hh => ?_)
  obtain ⟨x, H1, I1, rx, ex, ec, dd, v, ed, ea, q⟩ := hh
  subst ex
  obtain rfl : u = Value.ref a := rx
  subst ec
  subst ed
  obtain ⟨ha, _⟩ := I1.pin (a, oe) (List.mem_append_left _ List.mem_cons_self)
  obtain ⟨vs, hd⟩ := hf
  have hx : ObjOk X.prog X.w H1 s1.heap dd (.xd [(("place" : Str), v)]) := I1.hok dd _ ea
  obtain ⟨mA, hns, hr⟩ := hx
  obtain ⟨od, ho, hl⟩ := lookIn_ns hns
  have l : List.lookup ("place" : Str) [(("place" : Str), v)] = some v := by simp [List.lookup]
  obtain ⟨u, hu, ru⟩ := RelO.some_of (v := v) (o := mA "place") (by rw [← l]; exact hr "place")
  have J : PySem.W.InstAt s1.heap a oe C (some od) := ⟨ha, hz.1, by unfold PySem.W.notCls; rw [hd] <;> rfl, by rw [hz.2]; exact ho⟩
  exact HandSPX.exc_get I1.kIn J T.ga T.gg T.exC (PySem.W.findObj_own T.hdC T.noN rfl (by rw [hl, hu])) (handed_of ru) ⟨v, H1, I1.tok _, ru, q⟩
end
end L2


namespace DL
open PySem L2
theorem low_mk_NotRight {K : PySem.W.Frag} {h : Heap} {mg : Str → Option Value} {C f1 cE : Addr} (X : K.In h) (G : h.Ns mainGlobals mg) {nm q : Str} {N : Addr} {bs : List Value} {sn : List Str} {sub : List Value} {ab : Bool} {col : Option Bool} {dd : Option Addr} {m0 m1 m2 m3 m5 : Option Value}
    {od1 an1 : Option Addr} {sl1 : Array (Option Value)} {oc1 dc1 pm1 cd1 ct1 : Value} {p1 p2 q1 q2 q3 q4 : Pos}
    (aC : PySem.W.nsIn K mainGlobals "NotRight" = some (some (.ref C)))
    (xL : K.lookup C = some (excClassObj nm q C N bs [.ref cE, .type "ValueError", .type "Exception", .type "BaseException", .type "object"] true sn sub ab col dd m0 m1 m2 m3 m5 "ValueError.__new__"))
    (sa : PySem.W.findIn K (.ref C) "__setattr__" = some (some (.builtin "object.__setattr__"))) (ga : PySem.W.findIn K (.ref C) "__getattribute__" = some (some (.builtin "BaseException.__getattribute__"))) (gg : PySem.W.findIn K (.ref C) "__getattr__" = some none) (nb : PySem.W.findIn K (.ref C) "place" = some none)
    (a1 : PySem.W.findIn K (.ref C) "__init__" = some (some (.ref f1))) (t1 : PySem.W.typeIn K (.ref f1) = some (.type "function"))
    (l1 : K.lookup f1 = some ⟨oc1, od1, .func (PySem.W.fnOf "__init__" "NotRight.__init__" (PySem.LowX_NotRight.iA p1 p2) (PySem.LowX_NotRight.iB q1 q2 q3 q4) PySem.LowX_NotRight.iS .none .none dc1 pm1 an1 cd1 ct1), sl1⟩) (c1 : PySem.W.codeIn K cd1 "NotRight.__init__" = true)
    (kC : PySem.W.keepIn K (.ref C) = true) (eC : PySem.W.subIn K (.ref C) (.type "BaseException") = some true) (tC : PySem.W.typeIn K (.ref C) = some (.type "type")) (hC : PySem.W.hasDictIn K C = true) : ∃ f, PySem.LowX_NotRight.LowTxt K mg C f :=
  ⟨f1, { gC := PySem.W.mg_of X G aC, cls := ⟨nm, q, N, bs, _, sn, sub, ab, col, dd, m0, m1, m2, m3, m5, xL, rfl⟩, sa := sa, ga := ga, gg := gg, noN := nb, iC := a1, tC := t1, kC := kC, exC := eC, tyC := tC, hdC := hC, fn := ⟨_, _, _, _, _, _, _, _, _, _, _, _, _, _, l1, c1⟩ }⟩
def mRaise_NotRight (m : List Sl → R D) (S : List Sl) : SO := toS (m S) S fun d => match d with
  | .int i => .ex (.notRight i) S
  | _ => .bad
theorem ds_raise_NotRight {C : CL} {X : Cx} {W : WX} {a : Expr} {fI : Addr} {m : List Sl → R D} {p pos pos2 : Pos} {k : Nat} (T : PySem.LowX_NotRight.LowTxt X.K X.mg C.cN fI) (hc : X.calm = true) (hr : Room k X.A) (tk : Takes X W) (ha : DR C X W a m) (hg : Gl X "NotRight" := by rfl)
    (he : starEach (a :: []) X.env = (false, eval a X.env) :: starEach [] X.env := by rfl) (hpl : (backTo pos (starEach [] X.env)).any (·.1) = false := by rfl) :
    DS C X W (.Raise (some (.Call (.Name "NotRight" p) [a] [] pos)) none pos2) (mRaise_NotRight m) := by
  obtain ⟨ta, pa, ka⟩ := ha.ex
  refine .of ⟨_, ps_raiseLow_NotRight hc T hr tk (pa_cons pa pa_nil he) hg he hpl, fun F0 H0 F H σ S o E q => ?_⟩
  refine ka _ _ _ _ _ _ o _ (PostV.ofS o q fun d v F1 H1 e1 o1 w1 q1 => ?_)
  cases d with
  | int i =>
    cases w1.isInt
    refine ⟨_, rfl, fun dd hd => ?_⟩
    exact q1 σ F1 H1 o1 _ _ F1 _ (Ext.newO o1.sub hd) ⟨rfl, dd, rfl, upd_same⟩
  | _ => exact q1.elim
theorem de_fldX_NotRight {C : CL} {X : Cx} {W : WX} {pos : Pos} {a fI : Addr} {oe : Obj} {cls : Value} {d : Option Addr} {pn : List (Addr × Obj)} {e : Expr} {i : Nat} (T : PySem.LowX_NotRight.LowTxt X.K X.mg C.cN fI) (hz : Zc cls d oe) (hf : ∃ vs, oe.data = .fields vs) (he : PE (X.suite a ((a, oe) :: pn)) e (tVar i))
    (hb : attributeBase e "place" X.env (eval e X.env) = eval e X.env := by rfl) : DE (C.at a cls d) (X.suite a ((a, oe) :: pn)) W (.Attribute e "place" pos) (mFldX i fun x => match x with | .notRight k => some k | _ => none) := by
  refine ⟨⟨fun pins s σ H Q I ⟨F0, H0, F, S, o, q⟩ => ?_⟩⟩
  unfold mFldX at q
  split at q
  · rename_i x hx
    obtain ⟨z1, z2⟩ := o.xn hx
    cases x with
    | notRight k =>
      obtain ⟨y1, dd, y2, y3⟩ := z2
      exact (pe_byLow_NotRight T hz hf he hb).run pins s σ H Q I ⟨_, z1, rfl, y1, dd, _, y2, y3, Post.here q o.sub (.int _)⟩
    | _ => exact q.elim
  · exact q.elim
end DL
/-! list(range(a, b)) -/
namespace DL
open PySem L2
def lrg2 (x y : D) : R (List D) := match x, y with
  | .int i, .int j => if -(2 ^ 62) ≤ i ∧ i < 2 ^ 62 ∧ -(2 ^ 62) ≤ j ∧ j < 2 ^ 62 ∧ (j - i).toNat ≤ 2 ^ 24 then .ok ((List.range (j - i).toNat).map fun k : Nat => D.int (i + (k : Int))) else .bad
  | _, _ => .bad
section
variable {C : CL} {X : Cx} {W : WX} {a b : Expr} {p p2 pos pos2 : Pos}
theorem rp_intsR {K : PySem.W.Frag} {F : Hp} (g : Nat → Int) : ∀ xs : List Nat, RpA K F (xs.map fun i => V.int (g i)) (xs.map fun i => D.int (g i))
  | [] => .nil
  | x :: xs => .cons (.int _) (rp_intsR g xs)
theorem dn_listRg2 {ma mb : List Sl → R D} (hc : X.calm = true) (hg : Gl X "list") (hm : X.mg "list" = none) (hgr : Gl X "range") (hmr : X.mg "range" = none) (ha : DR C X W a ma) (hb : DR C X W b mb)
    (na : starEach [a, b] X.env = (false, eval a X.env) :: starEach [b] X.env := by rfl) (nb : starEach [b] X.env = (false, eval b X.env) :: starEach [] X.env := by rfl) (hp : (backTo pos2 (starEach [b] X.env)).any (·.1) = false := by rfl)
    (nr : starEach [Expr.Call (.Name "range" p2) [a, b] [] pos2] X.env = (false, eval (.Call (.Name "range" p2) [a, b] [] pos2) X.env) :: starEach [] X.env := by rfl) :
    DN C X W (.Call (.Name "list" p) [.Call (.Name "range" p2) [a, b] [] pos2] [] pos) (m2N lrg2 ma mb) := by
  obtain ⟨ta, pa, ka⟩ := ha.ex
  obtain ⟨tb, pb, kb⟩ := hb.ex
  refine .of ⟨_, pe_listRg hc hg hm (prg_2 hgr hmr pa pb na nb hp) nr, fun F0 H0 F H σ S o Q q => ?_⟩
  refine ka _ _ _ _ _ _ o _ (PostV.to (gN Q) q fun x v F1 H1 e1 w1 q1 => ?_)
  refine kb _ _ _ _ _ _ (o.up e1) _ (PostV.to (gN Q) q1 fun y u F2 H2 e2 w2 q2 => ?_)
  unfold lrg2 at q2
  split at q2
  · rename_i i j
    cases w1.isInt
    cases w2.isInt
    split at q2
    · rename_i hr
      refine ⟨i, j, rfl, rfl, hr, fun p hp => (PostPN.of q2).here e2.fh ?_ hp⟩
      exact rp_intsR (fun k => i + (k : Int)) _
    · exact q2.elim
  · exact q2.elim
end
end DL
namespace DL
open PySem L2
open PyProof.Rows (envOfC)

def top (i : Nat) : Stmt := PySem.Challenge.pw_clausekeep_k21_solved_wide.main.body.getD i (.Pass ⟨0, 0, 0, 0⟩)
/-- the module's constants -/
structure Cst (mg : Str → Option Value) : Prop where
  none_ : True
/-- what the text says of its things -/
structure Tht (K : PySem.W.Frag) (C : CL) : Prop where
  cl_Search : Cls K (C.cl 1)
  n_Search_variables : NoAttr K (C.cl 1) "variables"
  n_Search_rows : NoAttr K (C.cl 1) "rows"
  n_Search_steps : NoAttr K (C.cl 1) "steps"
  n_Search_model : NoAttr K (C.cl 1) "model"
  cl_Keeper : Cls K (C.cl 0)
  n_Keeper_variables : NoAttr K (C.cl 0) "variables"
  n_Keeper_table : NoAttr K (C.cl 0) "table"
  n_Keeper_top : NoAttr K (C.cl 0) "top"
  n_Keeper_taken : NoAttr K (C.cl 0) "taken"
  n_Keeper_refuted : NoAttr K (C.cl 0) "refuted"
/-- what the text says of its exceptions -/
structure Xt (K : PySem.W.Frag) (mg : Str → Option Value) (C : CL) : Prop where
  m_NotRight : mg "NotRight" = some (.ref C.cN)
  l_NotRight : ∃ fI, PySem.LowX_NotRight.LowTxt K mg C.cN fI
def qX (e : Exn) : Bool := match e with
  | .notRight _ => true
  | _ => false
/-! ### made -/
def s0_made : List Sl → SO :=
  (mSetND 1 (fun _ => .ok []))
def b0_made : List Sl → SO :=
  (mPut 1 (fun S => ((aCons (getV 2) aNil) S).bind (on1 absD)) (getF 2))
def s1_made : List Sl → SO :=
  (mFor (.one 2) (mItems (getF 0)) b0_made)
def s2_made : List Sl → SO :=
  (mRetO 1)
def m_made : List Sl → SO :=
  (mSeq s0_made (mSeq s1_made s2_made))
def f_made : List D → RO := runDefO 3 1 m_made
theorem sc_made : FnScope ["literals", "found", "literal"] ["literals"] (defScope (top 7)) := ⟨rfl, rfl, rfl, by decide +kernel, rfl, by decide +kernel, by decide +kernel⟩
theorem ok_made {P : Program} {w : World} {K : PySem.W.Frag} {mg : Str → Option Value} {base : Heap} {C : CL} {f : Addr} {fd : FuncData} (F : Fun K "made" "made" (top 7) f fd) (hm : mg "made" = some (.ref f)) (b : Binds K fd ["literals"] []) (B : Blt mg) (G : Cst mg) (XT : Xt K mg C) (TT : Tht K C)  :
    DefO P w K mg base C 1 "made" ["literals"] f_made := by
  unfold f_made
  refine DefO.mk' (m := m_made) rfl rfl F sc_made hm b fun cdv A outer s H E hr => ?_
  have hu65 : (A.deeper (envOfC "made" (defScope (top 7)) s.heap.objs.size f cdv)).units + 65 < cLine := by have := hr.un; omega
  have hu64 := Nat.lt_of_succ_lt hu65
  have hu1 : (A.deeper (envOfC "made" (defScope (top 7)) s.heap.objs.size f cdv)).units + 1 < cLine := by omega
  have sc := sc_made
  exact (dss_cons (ds_setND (i := 1) sc.nd rfl (by first | exact Or.inl rfl | exact Or.inr rfl) dnd_new) (dss_cons (ds_for (t := (.one 2)) (passes_of rfl) rfl (dis_seq (de_var (pv 0))) (pg_name (i := 2) sc.nd rfl (by first | exact Or.inl rfl | exact Or.inr rfl)) (dss_one (ds_put hu1 (pv 1) (DE.r (de_callB cd_abs (by rfl) B.abs PyProof.Rows.boot_abs (da_cons (dr_var (pv 2)) da_nil))) (de_var (pv 2))))) (dss_one (ds_retO (pv 1)))))
/-! ### is_true -/
def s0_is_true : List Sl → SO :=
  (mRet (m2 eqD (fun S => ((getV 0) S).bind fun x => (isDctR x).bind fun x => ((fun S => ((aCons (getV 1) aNil) S).bind (on1 absD)) S).bind fun y => ((cst (.int 0)) S).bind fun z => getD3 x y z) (getV 1)))
def m_is_true : List Sl → SO :=
  s0_is_true
def f_is_true : List D → R D := runDef 2 2 m_is_true
theorem sc_is_true : FnScope ["truths", "literal"] ["truths", "literal"] (defScope (top 1)) := ⟨rfl, rfl, rfl, by decide +kernel, rfl, by decide +kernel, by decide +kernel⟩
theorem ok_is_true {P : Program} {w : World} {K : PySem.W.Frag} {mg : Str → Option Value} {base : Heap} {C : CL} {f : Addr} {fd : FuncData} (F : Fun K "is_true" "is_true" (top 1) f fd) (hm : mg "is_true" = some (.ref f)) (b : Binds K fd ["truths", "literal"] []) (B : Blt mg) (G : Cst mg) (XT : Xt K mg C) (TT : Tht K C)  :
    Def P w K mg base C 1 "is_true" ["truths", "literal"] f_is_true := by
  unfold f_is_true
  refine Def.mk' (m := m_is_true) rfl rfl F sc_is_true hm b fun cdv A outer s H E hr => ?_
  have hu65 : (A.deeper (envOfC "is_true" (defScope (top 1)) s.heap.objs.size f cdv)).units + 65 < cLine := by have := hr.un; omega
  have hu64 := Nat.lt_of_succ_lt hu65
  have hu1 : (A.deeper (envOfC "is_true" (defScope (top 1)) s.heap.objs.size f cdv)).units + 1 < cLine := by omega
  have sc := sc_is_true
  exact (dss_one (ds_ret (de_cmp (dc_op (opd_eq hu64) (DE.r (de_get hu1 (dr_var (pv 0)) (DE.r (de_callB cd_abs (by rfl) B.abs PyProof.Rows.boot_abs (da_cons (dr_var (pv 1)) da_nil))) de_int ⟨rfl, rfl, rfl, rfl⟩)) (dr_var (pv 1))) (by first | exact nobehind _ (by decide) (by decide) | rfl))))
/-! ### held -/
def e0_held : List Sl → R D :=
  (fun S => ((aCons (getF 0) (aCons (getF 2) aNil)) S).bind f_is_true)
def s0_held : List Sl → SO :=
  (mRet (fun S => ((aCons (fun S => ((mLc (.one 2) [2] (mItems (getV 1)) mYes e0_held) S).bind fun ds => .ok (.lst ds)) aNil) S).bind (on1 anyD)))
def m_held : List Sl → SO :=
  s0_held
def f_held : List D → R D := runDef 3 2 m_held
theorem sc_held : FnScope ["truths", "clause", "literal"] ["truths", "clause"] (defScope (top 6)) := ⟨rfl, rfl, rfl, by decide +kernel, rfl, by decide +kernel, by decide +kernel⟩
theorem ok_held {P : Program} {w : World} {K : PySem.W.Frag} {mg : Str → Option Value} {base : Heap} {C : CL} {f : Addr} {fd : FuncData} (F : Fun K "held" "held" (top 6) f fd) (hm : mg "held" = some (.ref f)) (b : Binds K fd ["truths", "clause"] []) (B : Blt mg) (G : Cst mg) (XT : Xt K mg C) (TT : Tht K C) (D_is_true : Def P w K mg base C 1 "is_true" ["truths", "literal"] f_is_true) :
    Def P w K mg base C 2 "held" ["truths", "clause"] f_held := by
  unfold f_held
  refine Def.mk' (m := m_held) rfl rfl F sc_held hm b fun cdv A outer s H E hr => ?_
  have hu65 : (A.deeper (envOfC "held" (defScope (top 6)) s.heap.objs.size f cdv)).units + 65 < cLine := by have := hr.un; omega
  have hu64 := Nat.lt_of_succ_lt hu65
  have hu1 : (A.deeper (envOfC "held" (defScope (top 6)) s.heap.objs.size f cdv)).units + 1 < cLine := by omega
  have sc := sc_held
  exact (dss_one (ds_ret (de_callB (cd_any rfl) (by rfl) B.any PyProof.Rows.boot_any (da_cons (DE.r (DN.de (dn_lc (own := [(("literal" : Str), 2)]) (t := (.one 2)) rfl sc.nd (di_seq (dr_var (pv 1))) (by kernel_rfl) (by decide) (fun _ _ _ _ _ => (pg_name (i := 2) sc.nd rfl (by first | exact Or.inl rfl | exact Or.inr rfl))) (fun _ _ _ _ _ => dts_nil) (fun _ _ _ _ _ => (de_call D_is_true hr (by decide) takes0 rfl (dar_cons (de_var (pv 0)) (dar_cons (de_var (pv 2)) dar_nil)) rfl (len_cons (len_cons len_nil))))))) da_nil))))
/-! ### unlike -/
def s0_unlike : List Sl → SO :=
  (mSetN 1 (aLim aNil))
def b0_unlike : List Sl → SO :=
  (mIfS (fun S => ((m2 notInD (getV 2) (getV 1)) S).bind tBl) (mApp 1 (getF 2)) mSkip)
def s1_unlike : List Sl → SO :=
  (mFor (.one 2) (mItems (getF 0)) b0_unlike)
def s2_unlike : List Sl → SO :=
  (mRet (fun S => ((aCons (getV 1) aNil) S).bind (on1 tupD)))
def m_unlike : List Sl → SO :=
  (mSeq s0_unlike (mSeq s1_unlike s2_unlike))
def f_unlike : List D → R D := runDef 3 1 m_unlike
theorem sc_unlike : FnScope ["clause", "found", "literal"] ["clause"] (defScope (top 4)) := ⟨rfl, rfl, rfl, by decide +kernel, rfl, by decide +kernel, by decide +kernel⟩
theorem ok_unlike {P : Program} {w : World} {K : PySem.W.Frag} {mg : Str → Option Value} {base : Heap} {C : CL} {f : Addr} {fd : FuncData} (F : Fun K "unlike" "unlike" (top 4) f fd) (hm : mg "unlike" = some (.ref f)) (b : Binds K fd ["clause"] []) (B : Blt mg) (G : Cst mg) (XT : Xt K mg C) (TT : Tht K C)  :
    Def P w K mg base C 1 "unlike" ["clause"] f_unlike := by
  unfold f_unlike
  refine Def.mk' (m := m_unlike) rfl rfl F sc_unlike hm b fun cdv A outer s H E hr => ?_
  have hu65 : (A.deeper (envOfC "unlike" (defScope (top 4)) s.heap.objs.size f cdv)).units + 65 < cLine := by have := hr.un; omega
  have hu64 := Nat.lt_of_succ_lt hu65
  have hu1 : (A.deeper (envOfC "unlike" (defScope (top 4)) s.heap.objs.size f cdv)).units + 1 < cLine := by omega
  have sc := sc_unlike
  exact (dss_cons (ds_setN (i := 1) sc.nd rfl (by first | exact Or.inl rfl | exact Or.inr rfl) (dn_lst dar_nil)) (dss_cons (ds_for (t := (.one 2)) (passes_of rfl) rfl (dis_seq (de_var (pv 0))) (pg_name (i := 2) sc.nd rfl (by first | exact Or.inl rfl | exact Or.inr rfl)) (dss_one (ds_if (dt_cmp (dc_notIn hu65 (dr_var (pv 2)) (dr_var (pv 1))) (by first | exact nobehind _ (by decide) (by decide) | rfl)) (dss_one (ds_app (pv 1) (de_var (pv 2)))) dss_nil))) (dss_one (ds_ret (de_callT cd_tup (by rfl) B.tuple PyProof.Rows.boot_tuple (da_cons (dr_var (pv 1)) da_nil))))))
/-! ### is_false -/
def s0_is_false : List Sl → SO :=
  (mRet (m2 eqD (fun S => ((getV 0) S).bind fun x => (isDctR x).bind fun x => ((fun S => ((aCons (getV 1) aNil) S).bind (on1 absD)) S).bind fun y => ((cst (.int 0)) S).bind fun z => getD3 x y z) (m1 negD (getV 1))))
def m_is_false : List Sl → SO :=
  s0_is_false
def f_is_false : List D → R D := runDef 2 2 m_is_false
theorem sc_is_false : FnScope ["truths", "literal"] ["truths", "literal"] (defScope (top 2)) := ⟨rfl, rfl, rfl, by decide +kernel, rfl, by decide +kernel, by decide +kernel⟩
theorem ok_is_false {P : Program} {w : World} {K : PySem.W.Frag} {mg : Str → Option Value} {base : Heap} {C : CL} {f : Addr} {fd : FuncData} (F : Fun K "is_false" "is_false" (top 2) f fd) (hm : mg "is_false" = some (.ref f)) (b : Binds K fd ["truths", "literal"] []) (B : Blt mg) (G : Cst mg) (XT : Xt K mg C) (TT : Tht K C)  :
    Def P w K mg base C 1 "is_false" ["truths", "literal"] f_is_false := by
  unfold f_is_false
  refine Def.mk' (m := m_is_false) rfl rfl F sc_is_false hm b fun cdv A outer s H E hr => ?_
  have hu65 : (A.deeper (envOfC "is_false" (defScope (top 2)) s.heap.objs.size f cdv)).units + 65 < cLine := by have := hr.un; omega
  have hu64 := Nat.lt_of_succ_lt hu65
  have hu1 : (A.deeper (envOfC "is_false" (defScope (top 2)) s.heap.objs.size f cdv)).units + 1 < cLine := by omega
  have sc := sc_is_false
  exact (dss_one (ds_ret (de_cmp (dc_op (opd_eq hu64) (DE.r (de_get hu1 (dr_var (pv 0)) (DE.r (de_callB cd_abs (by rfl) B.abs PyProof.Rows.boot_abs (da_cons (dr_var (pv 1)) da_nil))) de_int ⟨rfl, rfl, rfl, rfl⟩)) (DE.r (de_un und_neg (dr_var (pv 1))))) (by first | exact nobehind _ (by decide) (by decide) | rfl))))
/-! ### opened -/
def c0_opened : List Sl → R Bool :=
  (tNot1 (fun S => ((fun S => ((aCons (getF 0) (aCons (getF 2) aNil)) S).bind f_is_false) S).bind trD))
def e0_opened : List Sl → R D :=
  (getF 2)
def s0_opened : List Sl → SO :=
  (mRetN (mLc (.one 2) [2] (mItems (fun S => ((aCons (getF 1) aNil) S).bind f_unlike)) c0_opened e0_opened))
def m_opened : List Sl → SO :=
  s0_opened
def f_opened : List D → RO := runDefO 3 2 m_opened
theorem sc_opened : FnScope ["truths", "clause", "literal"] ["truths", "clause"] (defScope (top 5)) := ⟨rfl, rfl, rfl, by decide +kernel, rfl, by decide +kernel, by decide +kernel⟩
theorem ok_opened {P : Program} {w : World} {K : PySem.W.Frag} {mg : Str → Option Value} {base : Heap} {C : CL} {f : Addr} {fd : FuncData} (F : Fun K "opened" "opened" (top 5) f fd) (hm : mg "opened" = some (.ref f)) (b : Binds K fd ["truths", "clause"] []) (B : Blt mg) (G : Cst mg) (XT : Xt K mg C) (TT : Tht K C) (D_unlike : Def P w K mg base C 1 "unlike" ["clause"] f_unlike) (D_is_false : Def P w K mg base C 1 "is_false" ["truths", "literal"] f_is_false) :
    DefO P w K mg base C 2 "opened" ["truths", "clause"] f_opened := by
  unfold f_opened
  refine DefO.mk' (m := m_opened) rfl rfl F sc_opened hm b fun cdv A outer s H E hr => ?_
  have hu65 : (A.deeper (envOfC "opened" (defScope (top 5)) s.heap.objs.size f cdv)).units + 65 < cLine := by have := hr.un; omega
  have hu64 := Nat.lt_of_succ_lt hu65
  have hu1 : (A.deeper (envOfC "opened" (defScope (top 5)) s.heap.objs.size f cdv)).units + 1 < cLine := by omega
  have sc := sc_opened
  exact (dss_one (ds_retN (dn_lc (own := [(("literal" : Str), 2)]) (t := (.one 2)) rfl sc.nd (di_seq (DE.r (de_call D_unlike hr (by decide) (takes_of rfl rfl rfl rfl) rfl (dar_cons (de_var (pv 1)) dar_nil) rfl (len_cons len_nil)))) (by kernel_rfl) (by decide) (fun _ _ _ _ _ => (pg_name (i := 2) sc.nd rfl (by first | exact Or.inl rfl | exact Or.inr rfl))) (fun _ _ _ _ _ => (dts_one (dt_not (dt_tru (DE.r (de_call D_is_false hr (by decide) takes0 rfl (dar_cons (de_var (pv 0)) (dar_cons (de_var (pv 2)) dar_nil)) rfl (len_cons (len_cons len_nil)))) (fun _ => rfl))))) (fun _ _ _ _ _ => (de_var (pv 2))))))
/-! ### Search_spread -/
def s0_Search_spread : List Sl → SO :=
  (mSetND 2 (fun S => ((aCons (getF 1) aNil) S).bind fun xs => (f_made xs).toND))
def s1_Search_spread : List Sl → SO :=
  (mSetN 3 (aLim aNil))
def s2_Search_spread : List Sl → SO :=
  (mSet 4 (cst (.bl true)))
def b0_Search_spread : List Sl → SO :=
  (mIfS (tNot1 (fun S => ((fun S => ((aCons (getV 2) (aCons (getV 6) aNil)) S).bind fun xs => (f_held xs).bind scalD) S).bind trD)) (mSeq (mSet 7 (fun S => ((fun S => ((aCons (getV 2) (aCons (getV 6) aNil)) S).bind fun xs => ((f_opened xs).toN).bind scalL) S).bind fun ds => .ok (.lst ds))) (mSeq (mIfS (tNot1 (fun S => ((getV 7) S).bind trD)) (mSeq (mFrz 2) (mRetS (fun S => (aLim (aCons (getF 2) (aCons (m2 addD (getV 3) (fun S => ((aLim (aCons (getF 5) aNil)) S).bind fun ds => .ok (.lst ds))) (aCons (cst (.bl true)) aNil))) S).bind fun ds => .ok (.tup ds)))) mSkip) (mIfS (fun S => ((m2 eqD (fun S => ((aCons (getV 7) aNil) S).bind (on1 lenD)) (cst (.int 1))) S).bind tBl) (mSeq (mPut 2 (fun S => ((aCons (m2 ixD (getV 7) (cst (.int 0))) aNil) S).bind (on1 absD)) (m2 ixD (getV 7) (cst (.int 0)))) (mSeq (mApp 3 (getF 5)) (mSet 4 (cst (.bl true))))) mSkip))) mSkip)
def b1_Search_spread : List Sl → SO :=
  (mSeq (mSet 4 (cst (.bl false))) (mForH 0 1 "rows" (.two 5 6) b0_Search_spread))
def t0_Search_spread : List Sl → R Bool :=
  (fun S => ((getV 4) S).bind trD)
def s3_Search_spread : List Sl → SO :=
  (whileM t0_Search_spread b1_Search_spread 1000)
def s4_Search_spread : List Sl → SO :=
  (mRetS (fun S => (aLim (aCons (getF 2) (aCons (getF 3) (aCons (cst (.bl false)) aNil))) S).bind fun ds => .ok (.tup ds)))
def m_Search_spread : List Sl → SO :=
  (mSeq s0_Search_spread (mSeq s1_Search_spread (mSeq s2_Search_spread (mSeq s3_Search_spread (mSeq (mFrz 2) (mSeq (mFrz 3) s4_Search_spread))))))
def f_Search_spread : List Sl → RS := runM 8 2 m_Search_spread
theorem sc_Search_spread : FnScope ["self", "literals", "truths", "hints", "still", "number", "clause", "left"] ["self", "literals"] (defScope (inClass (top 9) 2)) := ⟨rfl, rfl, rfl, by decide +kernel, rfl, by decide +kernel, by decide +kernel⟩
theorem ok_Search_spread {P : Program} {w : World} {K : PySem.W.Frag} {mg : Str → Option Value} {base : Heap} {C : CL} {f : Addr} {fd : FuncData} (F : Fun K "spread" "Search.spread" (inClass (top 9) 2) f fd) (hm : Meth K (C.cl 1) "spread" f) (b : Binds K fd ["self", "literals"] []) (B : Blt mg) (G : Cst mg) (XT : Xt K mg C) (TT : Tht K C) (D_made : DefO P w K mg base C 1 "made" ["literals"] f_made) (D_held : Def P w K mg base C 2 "held" ["truths", "clause"] f_held) (D_opened : DefO P w K mg base C 2 "opened" ["truths", "clause"] f_opened) :
    MetM P w K mg base C 3 1 "spread" ["self", "literals"] f_Search_spread := by
  unfold f_Search_spread
  refine MetM.mk' (m := m_Search_spread) rfl rfl F sc_Search_spread hm b fun pvs cdv A outer s H E hr => ?_
  have hu65 : (A.deeper (envOfC "Search.spread" (defScope (inClass (top 9) 2)) s.heap.objs.size f cdv)).units + 65 < cLine := by have := hr.un; omega
  have hu64 := Nat.lt_of_succ_lt hu65
  have hu1 : (A.deeper (envOfC "Search.spread" (defScope (inClass (top 9) 2)) s.heap.objs.size f cdv)).units + 1 < cLine := by omega
  have sc := sc_Search_spread
  exact (dss_cons (ds_setND (i := 2) sc.nd rfl (by first | exact Or.inl rfl | exact Or.inr rfl) (dnd_callO (D_made.pa pvs) hr (by decide) (takes_of rfl rfl rfl rfl) rfl (dar_cons (de_var (pv 1)) dar_nil) (len_cons len_nil))) (dss_cons (ds_setN (i := 3) sc.nd rfl (by first | exact Or.inl rfl | exact Or.inr rfl) (dn_lst dar_nil)) (dss_cons (ds_set (i := 4) sc.nd rfl (by first | exact Or.inl rfl | exact Or.inr rfl) de_bl) (dss_cons (ds_while 1000 (passes_of rfl) (dt_tru (dr_var (pv 4)) (fun _ => rfl)) (dss_cons (ds_set (i := 4) sc.nd rfl (by first | exact Or.inl rfl | exact Or.inr rfl) de_bl) (dss_one (ds_forH (t := (.two 5 6)) (passes_of rfl) rfl (pv 0) ⟨TT.cl_Search, TT.n_Search_rows⟩ (pg_tup rfl (pgs_cons (pg_name (i := 5) sc.nd rfl (by first | exact Or.inl rfl | exact Or.inr rfl)) (pgs_cons (pg_name (i := 6) sc.nd rfl (by first | exact Or.inl rfl | exact Or.inr rfl)) pgs_nil))) (dss_one (ds_if (dt_not (dt_tru (DE.r (de_callV (D_held.pa pvs) hr (by decide) (takes_of rfl rfl rfl rfl) (by rfl) (da_cons (dr_var (pv 2)) (da_cons (dr_var (pv 6)) da_nil)) (len_cons (len_cons len_nil)))) (fun _ => rfl))) (dss_cons (ds_set (i := 7) sc.nd rfl (by first | exact Or.inl rfl | exact Or.inr rfl) (DN.de (dn_callOV (D_opened.pa pvs) hr (by decide) (takes_of rfl rfl rfl rfl) (by rfl) (da_cons (dr_var (pv 2)) (da_cons (dr_var (pv 6)) da_nil)) (len_cons (len_cons len_nil))))) (dss_cons (ds_if (dt_not (dt_tru (dr_var (pv 7)) (fun _ => rfl))) (dss_frz (i := 2) (dss_one (ds_retS (de_tup (dar_cons (de_var (pv 2)) (dar_cons (de_bin opd_add (dr_var (pv 3)) (DE.r (DN.de (dn_lst (dar_cons (de_var (pv 5)) dar_nil))))) (dar_cons de_bl dar_nil))))))) dss_nil) (dss_one (ds_if (dt_cmp (dc_op (opd_eq hu64) (DE.r (de_callB cd_len (by rfl) B.len PySem.boot_len (da_cons (dr_var (pv 7)) da_nil))) (DE.r de_int)) (by first | exact nobehind _ (by decide) (by decide) | rfl)) (dss_cons (ds_put hu1 (pv 2) (DE.r (de_callB cd_abs (by rfl) B.abs PyProof.Rows.boot_abs (da_cons (DE.r (de_ix hu65 (dr_var (pv 7)) (DE.r de_int) (fun _ _ => rfl) (fun _ _ => rfl))) da_nil))) (de_ix hu65 (dr_var (pv 7)) (DE.r de_int) (fun _ _ => rfl) (fun _ _ => rfl))) (dss_cons (ds_app (pv 3) (de_var (pv 5))) (dss_one (ds_set (i := 4) sc.nd rfl (by first | exact Or.inl rfl | exact Or.inr rfl) de_bl)))) dss_nil)))) dss_nil)))))) (dss_frz (i := 2) (dss_frz (i := 3) (dss_one (ds_retS (de_tup (dar_cons (de_var (pv 2)) (dar_cons (de_var (pv 3)) (dar_cons de_bl dar_nil))))))))))))
/-! ### Search_learnt -/
def s0_Search_learnt : List Sl → SO :=
  (mSet 3 (m2 addD (fun S => ((aCons (getFV 0 1 "rows") aNil) S).bind (on1 lenD)) (cst (.int 1))))
def s1_Search_learnt : List Sl → SO :=
  (mFApp 0 1 "rows" (fun S => (aLim (aCons (getF 3) (aCons (fun S => ((aCons (getV 1) aNil) S).bind (on1 tupD)) aNil)) S).bind fun ds => .ok (.tup ds)))
def s2_Search_learnt : List Sl → SO :=
  (mFApp 0 1 "steps" (fun S => (aLim (aCons (cst (.str "add")) (aCons (getF 3) (aCons (fun S => ((aCons (getV 1) aNil) S).bind (on1 tupD)) (aCons (fun S => ((aCons (getV 2) aNil) S).bind (on1 tupD)) aNil)))) S).bind fun ds => .ok (.tup ds)))
def s3_Search_learnt : List Sl → SO :=
  (mRetS (getF 3))
def m_Search_learnt : List Sl → SO :=
  (mSeq s0_Search_learnt (mSeq s1_Search_learnt (mSeq s2_Search_learnt s3_Search_learnt)))
def f_Search_learnt : List Sl → RS := runM 4 3 m_Search_learnt
theorem sc_Search_learnt : FnScope ["self", "clause", "hints", "number"] ["self", "clause", "hints"] (defScope (inClass (top 9) 1)) := ⟨rfl, rfl, rfl, by decide +kernel, rfl, by decide +kernel, by decide +kernel⟩
theorem ok_Search_learnt {P : Program} {w : World} {K : PySem.W.Frag} {mg : Str → Option Value} {base : Heap} {C : CL} {f : Addr} {fd : FuncData} (F : Fun K "learnt" "Search.learnt" (inClass (top 9) 1) f fd) (hm : Meth K (C.cl 1) "learnt" f) (b : Binds K fd ["self", "clause", "hints"] []) (B : Blt mg) (G : Cst mg) (XT : Xt K mg C) (TT : Tht K C)  :
    MetM P w K mg base C 1 1 "learnt" ["self", "clause", "hints"] f_Search_learnt := by
  unfold f_Search_learnt
  refine MetM.mk' (m := m_Search_learnt) rfl rfl F sc_Search_learnt hm b fun pvs cdv A outer s H E hr => ?_
  have hu65 : (A.deeper (envOfC "Search.learnt" (defScope (inClass (top 9) 1)) s.heap.objs.size f cdv)).units + 65 < cLine := by have := hr.un; omega
  have hu64 := Nat.lt_of_succ_lt hu65
  have hu1 : (A.deeper (envOfC "Search.learnt" (defScope (inClass (top 9) 1)) s.heap.objs.size f cdv)).units + 1 < cLine := by omega
  have sc := sc_Search_learnt
  exact (dss_cons (ds_set (i := 3) sc.nd rfl (by first | exact Or.inl rfl | exact Or.inr rfl) (de_bin opd_add (DE.r (de_callB cd_len (by rfl) B.len PySem.boot_len (da_cons (dr_fld (pv 0) ⟨TT.cl_Search, TT.n_Search_rows⟩) da_nil))) (DE.r de_int))) (dss_cons (ds_fapp (pv 0) ⟨TT.cl_Search, TT.n_Search_rows⟩ (de_tup (dar_cons (de_var (pv 3)) (dar_cons (de_callT cd_tup (by rfl) B.tuple PyProof.Rows.boot_tuple (da_cons (dr_var (pv 1)) da_nil)) dar_nil)))) (dss_cons (ds_fapp (pv 0) ⟨TT.cl_Search, TT.n_Search_steps⟩ (de_tup (dar_cons de_str (dar_cons (de_var (pv 3)) (dar_cons (de_callT cd_tup (by rfl) B.tuple PyProof.Rows.boot_tuple (da_cons (dr_var (pv 1)) da_nil)) (dar_cons (de_callT cd_tup (by rfl) B.tuple PyProof.Rows.boot_tuple (da_cons (dr_var (pv 2)) da_nil)) dar_nil)))))) (dss_one (ds_retS (de_var (pv 3)))))))
/-! ### Search_closed -/
def s0_Search_closed (f_self : List Sl → RS) : List Sl → SO :=
  (mSetM 2 (mMeth 0 1 "spread" f_Search_spread (aCons (getF 1) aNil)))
def e0_Search_closed (f_self : List Sl → RS) : List Sl → R D :=
  (m1 negD (getV 7))
def s1_Search_closed (f_self : List Sl → RS) : List Sl → SO :=
  (mSet 3 (fun S => ((mLc (.one 7) [7] (mItems (getV 1)) mYes (e0_Search_closed f_self)) S).bind fun ds => .ok (.lst ds)))
def s2_Search_closed (f_self : List Sl → RS) : List Sl → SO :=
  (mIfS (fun S => ((m2 ixD (getV 2) (cst (.int 2))) S).bind trD) (mRetM (mMeth 0 1 "learnt" f_Search_learnt (aCons (getF 3) (aCons (m2 ixD (getV 2) (cst (.int 1))) aNil)))) mSkip)
def i0_Search_closed (f_self : List Sl → RS) : List Sl → R (List D) :=
  (fun S => ((aCons (cst (.int 1)) (aCons (m2 addD (getFV 0 1 "variables") (cst (.int 1))) aNil)) S).bind rng2)
def c0_Search_closed (f_self : List Sl → RS) : List Sl → R Bool :=
  (fun S => ((m2 notInD (getV 8) (m2 ixD (getV 2) (cst (.int 0)))) S).bind tBl)
def e1_Search_closed (f_self : List Sl → RS) : List Sl → R D :=
  (getF 8)
def s3_Search_closed (f_self : List Sl → RS) : List Sl → SO :=
  (mSet 4 (fun S => ((mLc (.one 8) [8] (i0_Search_closed f_self) (c0_Search_closed f_self) (e1_Search_closed f_self)) S).bind fun ds => .ok (.lst ds)))
def i1_Search_closed (f_self : List Sl → RS) : List Sl → R (List D) :=
  (fun S => ((aCons (cst (.int 1)) (aCons (m2 addD (getFV 0 1 "variables") (cst (.int 1))) aNil)) S).bind rng2)
def e2_Search_closed (f_self : List Sl → RS) : List Sl → R D :=
  (m2 ixD (m2 ixD (getV 2) (cst (.int 0))) (getV 8))
def s4_Search_closed (f_self : List Sl → RS) : List Sl → SO :=
  (mIfS (tNot1 (fun S => ((getV 4) S).bind trD)) (mSeq (mFSet 0 1 "model" (fun S => ((mLc (.one 8) [8] (i1_Search_closed f_self) mYes (e2_Search_closed f_self)) S).bind fun ds => .ok (.lst ds))) (mRetS (cst (.int 0)))) mSkip)
def s5_Search_closed (f_self : List Sl → RS) : List Sl → SO :=
  (mSetM 5 (mMeth 0 1 "closed" f_self (aCons (m2 addD (getV 1) (fun S => ((aLim (aCons (m2 ixD (getV 4) (cst (.int 0))) aNil)) S).bind fun ds => .ok (.lst ds))) aNil)))
def s6_Search_closed (f_self : List Sl → RS) : List Sl → SO :=
  (mIfS (fun S => ((m2 eqD (getV 5) (cst (.int 0))) S).bind tBl) (mRetS (cst (.int 0))) mSkip)
def s7_Search_closed (f_self : List Sl → RS) : List Sl → SO :=
  (mSetM 6 (mMeth 0 1 "closed" f_self (aCons (m2 addD (getV 1) (fun S => ((aLim (aCons (m1 negD (m2 ixD (getV 4) (cst (.int 0)))) aNil)) S).bind fun ds => .ok (.lst ds))) aNil)))
def s8_Search_closed (f_self : List Sl → RS) : List Sl → SO :=
  (mIfS (fun S => ((m2 eqD (getV 6) (cst (.int 0))) S).bind tBl) (mRetS (cst (.int 0))) mSkip)
def s9_Search_closed (f_self : List Sl → RS) : List Sl → SO :=
  (mRetM (mMeth 0 1 "learnt" f_Search_learnt (aCons (getF 3) (aCons (m2 addD (m2 ixD (getV 2) (cst (.int 1))) (fun S => ((aLim (aCons (getF 5) (aCons (getF 6) aNil))) S).bind fun ds => .ok (.lst ds))) aNil))))
def m_Search_closed (f_self : List Sl → RS) : List Sl → SO :=
  (mSeq (s0_Search_closed f_self) (mSeq (s1_Search_closed f_self) (mSeq (s2_Search_closed f_self) (mSeq (s3_Search_closed f_self) (mSeq (s4_Search_closed f_self) (mSeq (s5_Search_closed f_self) (mSeq (s6_Search_closed f_self) (mSeq (s7_Search_closed f_self) (mSeq (s8_Search_closed f_self) (s9_Search_closed f_self))))))))))
def f_Search_closed : Nat → List Sl → RS
  | 0 => fun _ => .bad
  | n + 1 => runM 9 2 (m_Search_closed (f_Search_closed n))
theorem sc_Search_closed : FnScope ["self", "literals", "end", "opposite", "free", "one", "other", "literal", "k"] ["self", "literals"] (defScope (inClass (top 9) 3)) := ⟨rfl, rfl, rfl, by decide +kernel, rfl, by decide +kernel, by decide +kernel⟩
theorem ok_Search_closed {P : Program} {w : World} {K : PySem.W.Frag} {mg : Str → Option Value} {base : Heap} {C : CL} {f : Addr} {fd : FuncData} (F : Fun K "closed" "Search.closed" (inClass (top 9) 3) f fd) (hm : Meth K (C.cl 1) "closed" f) (b : Binds K fd ["self", "literals"] []) (B : Blt mg) (G : Cst mg) (XT : Xt K mg C) (TT : Tht K C) (D_Search_spread : MetM P w K mg base C 3 1 "spread" ["self", "literals"] f_Search_spread) (D_Search_learnt : MetM P w K mg base C 1 1 "learnt" ["self", "clause", "hints"] f_Search_learnt) :
    ∀ n : Nat, MetM P w K mg base C (4 + n) 1 "closed" ["self", "literals"] (f_Search_closed n) := by
  intro n
  induction n with
  | zero => exact MetM.mk' (k := 3) (m := fun _ => SO.bad) (n := 9) (np := 2) rfl rfl F sc_Search_closed hm b fun pvs cdv A outer s H E hr => dss_bad
  | succ n D_self =>
  show MetM P w K mg base C ((4 + n) + 1) 1 "closed" ["self", "literals"] (runM 9 2 (m_Search_closed (f_Search_closed n)))
  generalize f_Search_closed n = f_self at *
  refine MetM.mk' (k := 4 + n) (m := m_Search_closed f_self) rfl rfl F sc_Search_closed hm b fun pvs cdv A outer s H E hr => ?_
  have hu65 : (A.deeper (envOfC "Search.closed" (defScope (inClass (top 9) 3)) s.heap.objs.size f cdv)).units + 65 < cLine := by have := hr.un; omega
  have hu64 := Nat.lt_of_succ_lt hu65
  have hu1 : (A.deeper (envOfC "Search.closed" (defScope (inClass (top 9) 3)) s.heap.objs.size f cdv)).units + 1 < cLine := by omega
  have sc := sc_Search_closed
  exact (dss_cons (ds_setM (i := 2) sc.nd rfl (by first | exact Or.inl rfl | exact Or.inr rfl) (dem_meth (D_Search_spread.pa pvs) TT.cl_Search hr (by omega) (takes_of rfl rfl rfl rfl) (pv 0) (dar_cons (de_var (pv 1)) dar_nil) (lenM (len_cons len_nil)))) (dss_cons (ds_asg (ps_N_E (ps_lcN (i := 3) (own := [(("literal" : Str), 7)]) (t := (.one 7)) rfl sc.nd rfl rfl (sw_true rfl rfl rfl (by decide +kernel)) (di_seq (dr_var (pv 1))) (by kernel_rfl) (by decide) (fun _ _ _ _ _ => (pg_name (i := 7) sc.nd rfl (by first | exact Or.inl rfl | exact Or.inr rfl))) (fun _ _ _ _ _ => dts_nil) (fun _ _ _ _ _ => (de_un und_neg (dr_var (pv 7))))))) (dss_cons (ds_if (dt_tru (DE.r (de_ix hu65 (dr_var (pv 2)) (DE.r de_int) (fun _ _ => rfl) (fun _ _ => rfl))) (fun _ => rfl)) (dss_one (ds_retM (dem_meth (D_Search_learnt.pa pvs) TT.cl_Search hr (by omega) (takes_of rfl rfl rfl rfl) (pv 0) (dar_cons (de_var (pv 3)) (dar_cons (de_ix hu65 (dr_var (pv 2)) (DE.r de_int) (fun _ _ => rfl) (fun _ _ => rfl)) dar_nil)) (lenM (len_cons (len_cons len_nil)))))) dss_nil) (dss_cons (ds_asg (ps_N_E (ps_lcN (i := 4) (own := [(("k" : Str), 8)]) (t := (.one 8)) rfl sc.nd rfl rfl (sw_true rfl rfl rfl (by decide +kernel)) (DIS.i (dis_range2 (by rfl) B.range (da_cons (DE.r de_int) (da_cons (DE.r (de_bin opd_add (dr_fld (pv 0) ⟨TT.cl_Search, TT.n_Search_variables⟩) (DE.r de_int))) da_nil)))) (by kernel_rfl) (by decide) (fun _ _ _ _ _ => (pg_name (i := 8) sc.nd rfl (by first | exact Or.inl rfl | exact Or.inr rfl))) (fun _ _ _ _ _ => (dts_one (dt_cmp (dc_notIn hu65 (dr_var (pv 8)) (DE.r (de_ix hu65 (dr_var (pv 2)) (DE.r de_int) (fun _ _ => rfl) (fun _ _ => rfl)))) (by first | exact nobehind _ (by decide) (by decide) | rfl)))) (fun _ _ _ _ _ => (de_var (pv 8)))))) (dss_cons (ds_if (dt_not (dt_tru (dr_var (pv 4)) (fun _ => rfl))) (dss_cons (ds_fset (pv 0) ⟨TT.cl_Search, TT.n_Search_model⟩ (DN.de (dn_lc (own := [(("k" : Str), 8)]) (t := (.one 8)) rfl sc.nd (DIS.i (dis_range2 (by rfl) B.range (da_cons (DE.r de_int) (da_cons (DE.r (de_bin opd_add (dr_fld (pv 0) ⟨TT.cl_Search, TT.n_Search_variables⟩) (DE.r de_int))) da_nil)))) (by kernel_rfl) (by decide) (fun _ _ _ _ _ => (pg_name (i := 8) sc.nd rfl (by first | exact Or.inl rfl | exact Or.inr rfl))) (fun _ _ _ _ _ => dts_nil) (fun _ _ _ _ _ => (de_ix hu65 (DE.r (de_ix hu65 (dr_var (pv 2)) (DE.r de_int) (fun _ _ => rfl) (fun _ _ => rfl))) (dr_var (pv 8)) (fun _ _ => rfl) (fun _ _ => rfl)))))) (dss_one (ds_retS de_int))) dss_nil) (dss_cons (ds_setM (i := 5) sc.nd rfl (by first | exact Or.inl rfl | exact Or.inr rfl) (dem_meth (D_self.pa pvs) TT.cl_Search hr (Nat.le_refl _) (takes_of rfl rfl rfl rfl) (pv 0) (dar_cons (de_bin opd_add (dr_var (pv 1)) (DE.r (DN.de (dn_lst (dar_cons (de_ix hu65 (dr_var (pv 4)) (DE.r de_int) (fun _ _ => rfl) (fun _ _ => rfl)) dar_nil))))) dar_nil) (lenM (len_cons len_nil)))) (dss_cons (ds_if (dt_cmp (dc_op (opd_eq hu64) (dr_var (pv 5)) (DE.r de_int)) (by first | exact nobehind _ (by decide) (by decide) | rfl)) (dss_one (ds_retS de_int)) dss_nil) (dss_cons (ds_setM (i := 6) sc.nd rfl (by first | exact Or.inl rfl | exact Or.inr rfl) (dem_meth (D_self.pa pvs) TT.cl_Search hr (Nat.le_refl _) (takes_of rfl rfl rfl rfl) (pv 0) (dar_cons (de_bin opd_add (dr_var (pv 1)) (DE.r (DN.de (dn_lst (dar_cons (de_un und_neg (DE.r (de_ix hu65 (dr_var (pv 4)) (DE.r de_int) (fun _ _ => rfl) (fun _ _ => rfl)))) dar_nil))))) dar_nil) (lenM (len_cons len_nil)))) (dss_cons (ds_if (dt_cmp (dc_op (opd_eq hu64) (dr_var (pv 6)) (DE.r de_int)) (by first | exact nobehind _ (by decide) (by decide) | rfl)) (dss_one (ds_retS de_int)) dss_nil) (dss_one (ds_retM (dem_meth (D_Search_learnt.pa pvs) TT.cl_Search hr (by omega) (takes_of rfl rfl rfl rfl) (pv 0) (dar_cons (de_var (pv 3)) (dar_cons (de_bin opd_add (DE.r (de_ix hu65 (dr_var (pv 2)) (DE.r de_int) (fun _ _ => rfl) (fun _ _ => rfl))) (DE.r (DN.de (dn_lst (dar_cons (de_var (pv 5)) (dar_cons (de_var (pv 6)) dar_nil)))))) dar_nil)) (lenM (len_cons (len_cons len_nil)))))))))))))))
/-! ### Search___init__ -/
def s0_Search___init__ : List Sl → SO :=
  (mFSet 0 1 "variables" (getF 1))
def s1_Search___init__ : List Sl → SO :=
  (mFSetN 0 1 "rows" (aLim aNil))
def s2_Search___init__ : List Sl → SO :=
  (mFSetN 0 1 "steps" (aLim aNil))
def s3_Search___init__ : List Sl → SO :=
  (mFSet 0 1 "model" (cst .non))
def i0_Search___init__ : List Sl → R (List D) :=
  (fun S => ((aCons (fun S => ((aCons (getV 2) aNil) S).bind (on1 lenD)) aNil) S).bind rng1)
def b0_Search___init__ : List Sl → SO :=
  (mFApp 0 1 "rows" (fun S => (aLim (aCons (m2 addD (getV 3) (cst (.int 1))) (aCons (fun S => ((aCons (m2 ixD (getV 2) (getV 3)) aNil) S).bind (on1 tupD)) aNil)) S).bind fun ds => .ok (.tup ds)))
def s4_Search___init__ : List Sl → SO :=
  (mFor (.one 3) i0_Search___init__ b0_Search___init__)
def m_Search___init__ : List Sl → SO :=
  (mSeq s0_Search___init__ (mSeq s1_Search___init__ (mSeq s2_Search___init__ (mSeq s3_Search___init__ s4_Search___init__))))
def f_Search___init__ : List Sl → RS := runM 4 3 m_Search___init__
theorem sc_Search___init__ : FnScope ["self", "variables", "clauses", "k"] ["self", "variables", "clauses"] (defScope (inClass (top 9) 0)) := ⟨rfl, rfl, rfl, by decide +kernel, rfl, by decide +kernel, by decide +kernel⟩
theorem ok_Search___init__ {P : Program} {w : World} {K : PySem.W.Frag} {mg : Str → Option Value} {base : Heap} {C : CL} {f : Addr} {fd : FuncData} (F : Fun K "__init__" "Search.__init__" (inClass (top 9) 0) f fd) (hm : Mk K (C.cl 1) f) (hg : mg "Search" = some (.ref (C.cl 1))) (b : Binds K fd ["self", "variables", "clauses"] []) (B : Blt mg) (G : Cst mg) (XT : Xt K mg C) (TT : Tht K C)  :
    MkM P w K mg base C 1 1 "Search" ["self", "variables", "clauses"] f_Search___init__ := by
  unfold f_Search___init__
  refine MkM.mk' (m := m_Search___init__) rfl rfl F sc_Search___init__ hm hg b fun pvs cdv A outer s H E hr => ?_
  have hu65 : (A.deeper (envOfC "Search.__init__" (defScope (inClass (top 9) 0)) s.heap.objs.size f cdv)).units + 65 < cLine := by have := hr.un; omega
  have hu64 := Nat.lt_of_succ_lt hu65
  have hu1 : (A.deeper (envOfC "Search.__init__" (defScope (inClass (top 9) 0)) s.heap.objs.size f cdv)).units + 1 < cLine := by omega
  have sc := sc_Search___init__
  exact (dss_cons (ds_fset (pv 0) ⟨TT.cl_Search, TT.n_Search_variables⟩ (de_var (pv 1))) (dss_cons (ds_fsetN (pv 0) ⟨TT.cl_Search, TT.n_Search_rows⟩ (dn_lst dar_nil)) (dss_cons (ds_fsetN (pv 0) ⟨TT.cl_Search, TT.n_Search_steps⟩ (dn_lst dar_nil)) (dss_cons (ds_fset (pv 0) ⟨TT.cl_Search, TT.n_Search_model⟩ de_non) (dss_one (ds_for (t := (.one 3)) (passes_of rfl) rfl (dis_range1 (by rfl) B.range (da_cons (DE.r (de_callB cd_len (by rfl) B.len PySem.boot_len (da_cons (dr_var (pv 2)) da_nil))) da_nil)) (pg_name (i := 3) sc.nd rfl (by first | exact Or.inl rfl | exact Or.inr rfl)) (dss_one (ds_fapp (pv 0) ⟨TT.cl_Search, TT.n_Search_rows⟩ (de_tup (dar_cons (de_bin opd_add (dr_var (pv 3)) (DE.r de_int)) (dar_cons (de_callT cd_tup (by rfl) B.tuple PyProof.Rows.boot_tuple (da_cons (DE.r (de_ix hu65 (dr_var (pv 2)) (dr_var (pv 3)) (fun _ _ => rfl) (fun _ _ => rfl))) da_nil)) dar_nil)))))))))))
/-! ### solved -/
def s0_solved : List Sl → SO :=
  (mMk 2 1 f_Search___init__ (aCons (getF 0) (aCons (getF 1) aNil)))
def s1_solved : List Sl → SO :=
  (mDropM (mMeth 2 1 "closed" (f_Search_closed 30) (aCons (fun S => ((aLim aNil) S).bind fun ds => .ok (.lst ds)) aNil)))
def s2_solved : List Sl → SO :=
  (mIfS (fun S => ((m2 isNotD (getFV 2 1 "model") (cst .non)) S).bind tBl) (mRet (fun S => (aLim (aCons (fun S => ((aCons (getFV 2 1 "model") aNil) S).bind (on1 tupD)) (aCons (fun S => ((aLim aNil) S).bind fun ds => .ok (.lst ds)) aNil)) S).bind fun ds => .ok (.tup ds))) mSkip)
def s3_solved : List Sl → SO :=
  (mRet (fun S => (aLim (aCons (cst .non) (aCons (getFF 2 1 "steps") aNil)) S).bind fun ds => .ok (.tup ds)))
def m_solved : List Sl → SO :=
  (mSeq s0_solved (mSeq s1_solved (mSeq s2_solved (mSeq (mFFrz 2 "steps") s3_solved))))
def f_solved : List D → R D := runDef 3 2 m_solved
theorem sc_solved : FnScope ["variables", "clauses", "search"] ["variables", "clauses"] (defScope (top 10)) := ⟨rfl, rfl, rfl, by decide +kernel, rfl, by decide +kernel, by decide +kernel⟩
theorem ok_solved {P : Program} {w : World} {K : PySem.W.Frag} {mg : Str → Option Value} {base : Heap} {C : CL} {f : Addr} {fd : FuncData} (F : Fun K "solved" "solved" (top 10) f fd) (hm : mg "solved" = some (.ref f)) (b : Binds K fd ["variables", "clauses"] []) (B : Blt mg) (G : Cst mg) (XT : Xt K mg C) (TT : Tht K C) (D_Search___init__ : MkM P w K mg base C 1 1 "Search" ["self", "variables", "clauses"] f_Search___init__) (D_Search_closed : MetM P w K mg base C 34 1 "closed" ["self", "literals"] (f_Search_closed 30)) :
    Def P w K mg base C 35 "solved" ["variables", "clauses"] f_solved := by
  unfold f_solved
  refine Def.mk' (m := m_solved) rfl rfl F sc_solved hm b fun cdv A outer s H E hr => ?_
  have hu65 : (A.deeper (envOfC "solved" (defScope (top 10)) s.heap.objs.size f cdv)).units + 65 < cLine := by have := hr.un; omega
  have hu64 := Nat.lt_of_succ_lt hu65
  have hu1 : (A.deeper (envOfC "solved" (defScope (top 10)) s.heap.objs.size f cdv)).units + 1 < cLine := by omega
  have sc := sc_solved
  exact (dss_cons (ds_mk D_Search___init__ sc.nd rfl (by first | exact Or.inl rfl | exact Or.inr rfl) hr (by decide) (by rfl) (dar_cons (de_var (pv 0)) (dar_cons (de_var (pv 1)) dar_nil)) (lenM (len_cons (len_cons len_nil)))) (dss_cons (ds_dropM (dem_meth D_Search_closed TT.cl_Search hr (by decide) (takes_of rfl rfl rfl rfl) (pv 2) (dar_cons (DN.de (dn_lst dar_nil)) dar_nil) (lenM (len_cons len_nil)))) (dss_cons (ds_if (dt_cmp (dc_op opd_isNot (dr_fld (pv 2) ⟨TT.cl_Search, TT.n_Search_model⟩) (DE.r de_non)) (by first | exact nobehind _ (by decide) (by decide) | rfl)) (dss_one (ds_ret (de_tup (dar_cons (de_callT cd_tup (by rfl) B.tuple PyProof.Rows.boot_tuple (da_cons (dr_fld (pv 2) ⟨TT.cl_Search, TT.n_Search_model⟩) da_nil)) (dar_cons (DN.de (dn_lst dar_nil)) dar_nil))))) dss_nil) (dss_ffrz (i := 2) (f := "steps") (dss_one (ds_ret (de_tup (dar_cons de_non (dar_cons (de_fld (pv 2) ⟨TT.cl_Search, TT.n_Search_steps⟩) dar_nil)))))))))
/-! ### _law_cell -/
def s0__law_cell : List Sl → SO :=
  (mIfS (fun S => ((getV 0) S).bind trD) (mRet (m2 ixD (getV 0) (m2 modD (getV 1) (fun S => ((aCons (getV 0) aNil) S).bind (on1 lenD))))) mSkip)
def s1__law_cell : List Sl → SO :=
  (mRet (cst (.int 0)))
def m__law_cell : List Sl → SO :=
  (mSeq s0__law_cell s1__law_cell)
def f__law_cell : List D → R D := runDef 2 2 m__law_cell
theorem sc__law_cell : FnScope ["_law_script", "_law_k"] ["_law_script", "_law_k"] (defScope (top 24)) := ⟨rfl, rfl, rfl, by decide +kernel, rfl, by decide +kernel, by decide +kernel⟩
theorem ok__law_cell {P : Program} {w : World} {K : PySem.W.Frag} {mg : Str → Option Value} {base : Heap} {C : CL} {f : Addr} {fd : FuncData} (F : Fun K "_law_cell" "_law_cell" (top 24) f fd) (hm : mg "_law_cell" = some (.ref f)) (b : Binds K fd ["_law_script", "_law_k"] []) (B : Blt mg) (G : Cst mg) (XT : Xt K mg C) (TT : Tht K C)  :
    Def P w K mg base C 1 "_law_cell" ["_law_script", "_law_k"] f__law_cell := by
  unfold f__law_cell
  refine Def.mk' (m := m__law_cell) rfl rfl F sc__law_cell hm b fun cdv A outer s H E hr => ?_
  have hu65 : (A.deeper (envOfC "_law_cell" (defScope (top 24)) s.heap.objs.size f cdv)).units + 65 < cLine := by have := hr.un; omega
  have hu64 := Nat.lt_of_succ_lt hu65
  have hu1 : (A.deeper (envOfC "_law_cell" (defScope (top 24)) s.heap.objs.size f cdv)).units + 1 < cLine := by omega
  have sc := sc__law_cell
  exact (dss_cons (ds_if (dt_tru (dr_var (pv 0)) (fun _ => rfl)) (dss_one (ds_ret (de_ix hu65 (dr_var (pv 0)) (DE.r (de_bin opd_mod (dr_var (pv 1)) (DE.r (de_callB cd_len (by rfl) B.len PySem.boot_len (da_cons (dr_var (pv 0)) da_nil))))) (fun _ _ => rfl) (fun _ _ => rfl)))) dss_nil) (dss_one (ds_ret de_int)))
/-! ### _law_mix -/
def s0__law_mix : List Sl → SO :=
  (mSet 2 (m2 modD (m2 addD (fun S => ((aCons (getF 0) (aCons (getF 1) aNil)) S).bind f__law_cell) (m2 mulD (cst (.int 104729)) (m2 addD (getV 1) (cst (.int 1))))) (cst (.int 4294967291))))
def s1__law_mix : List Sl → SO :=
  (mSet 2 (m2 modD (m2 mulD (getV 2) (cst (.int 48271))) (cst (.int 4294967279))))
def s2__law_mix : List Sl → SO :=
  (mRet (m2 modD (m2 addD (m2 mulD (m2 fdivD (getV 2) (cst (.int 64))) (cst (.int 69621))) (getV 2)) (cst (.int 4294967231))))
def m__law_mix : List Sl → SO :=
  (mSeq s0__law_mix (mSeq s1__law_mix s2__law_mix))
def f__law_mix : List D → R D := runDef 3 2 m__law_mix
theorem sc__law_mix : FnScope ["_law_script", "_law_k", "_law_number"] ["_law_script", "_law_k"] (defScope (top 25)) := ⟨rfl, rfl, rfl, by decide +kernel, rfl, by decide +kernel, by decide +kernel⟩
theorem ok__law_mix {P : Program} {w : World} {K : PySem.W.Frag} {mg : Str → Option Value} {base : Heap} {C : CL} {f : Addr} {fd : FuncData} (F : Fun K "_law_mix" "_law_mix" (top 25) f fd) (hm : mg "_law_mix" = some (.ref f)) (b : Binds K fd ["_law_script", "_law_k"] []) (B : Blt mg) (G : Cst mg) (XT : Xt K mg C) (TT : Tht K C) (D__law_cell : Def P w K mg base C 1 "_law_cell" ["_law_script", "_law_k"] f__law_cell) :
    Def P w K mg base C 2 "_law_mix" ["_law_script", "_law_k"] f__law_mix := by
  unfold f__law_mix
  refine Def.mk' (m := m__law_mix) rfl rfl F sc__law_mix hm b fun cdv A outer s H E hr => ?_
  have hu65 : (A.deeper (envOfC "_law_mix" (defScope (top 25)) s.heap.objs.size f cdv)).units + 65 < cLine := by have := hr.un; omega
  have hu64 := Nat.lt_of_succ_lt hu65
  have hu1 : (A.deeper (envOfC "_law_mix" (defScope (top 25)) s.heap.objs.size f cdv)).units + 1 < cLine := by omega
  have sc := sc__law_mix
  exact (dss_cons (ds_set (i := 2) sc.nd rfl (by first | exact Or.inl rfl | exact Or.inr rfl) (de_bin opd_mod (DE.r (de_bin opd_add (DE.r (de_call D__law_cell hr (by decide) (takes_of rfl rfl rfl rfl) rfl (dar_cons (de_var (pv 0)) (dar_cons (de_var (pv 1)) dar_nil)) rfl (len_cons (len_cons len_nil)))) (DE.r (de_bin opd_mul (DE.r de_int) (DE.r (de_bin opd_add (dr_var (pv 1)) (DE.r de_int))))))) (DE.r de_int))) (dss_cons (ds_set (i := 2) sc.nd rfl (by first | exact Or.inl rfl | exact Or.inr rfl) (de_bin opd_mod (DE.r (de_bin opd_mul (dr_var (pv 2)) (DE.r de_int))) (DE.r de_int))) (dss_one (ds_ret (de_bin opd_mod (DE.r (de_bin opd_add (DE.r (de_bin opd_mul (DE.r (de_bin opd_fdiv (dr_var (pv 2)) (DE.r de_int))) (DE.r de_int))) (dr_var (pv 2)))) (DE.r de_int))))))
/-! ### _law_places -/
def i0__law_places : List Sl → R (List D) :=
  (fun S => ((aCons (getV 0) aNil) S).bind rng1)
def i1__law_places : List Sl → R (List D) :=
  (fun S => ((aCons (getV 1) aNil) S).bind rng1)
def e0__law_places : List Sl → R D :=
  (m2 addD (m2 addD (m2 mulD (getV 1) (getV 4)) (getV 3)) (cst (.int 1)))
def e1__law_places : List Sl → R D :=
  (fun S => ((aCons (fun S => ((mLc (.one 3) [3] i1__law_places mYes e0__law_places) S).bind fun ds => .ok (.lst ds)) aNil) S).bind (on1 tupD))
def s0__law_places : List Sl → SO :=
  (mSetN 2 (mLc (.one 4) [4] i0__law_places mYes e1__law_places))
def i2__law_places : List Sl → R (List D) :=
  (fun S => ((aCons (getV 1) aNil) S).bind rng1)
def i3__law_places : List Sl → R (List D) :=
  (fun S => ((aCons (getV 0) aNil) S).bind rng1)
def i4__law_places : List Sl → R (List D) :=
  (fun S => ((aCons (getV 4) aNil) S).bind rng1)
def b0__law_places : List Sl → SO :=
  (mSeq (mSet 6 (fun S => (aLim (aCons (m2 addD (m2 addD (m2 mulD (getV 1) (getV 4)) (getV 3)) (cst (.int 1))) (aCons (m2 addD (m2 addD (m2 mulD (getV 1) (getV 5)) (getV 3)) (cst (.int 1))) aNil)) S).bind fun ds => .ok (.tup ds))) (mApp 2 (fun S => (aLim (aCons (m1 negD (m2 ixD (getV 6) (cst (.int 0)))) (aCons (m1 negD (m2 ixD (getV 6) (cst (.int 1)))) aNil)) S).bind fun ds => .ok (.tup ds))))
def b1__law_places : List Sl → SO :=
  (mFor (.one 5) i4__law_places b0__law_places)
def b2__law_places : List Sl → SO :=
  (mFor (.one 4) i3__law_places b1__law_places)
def s1__law_places : List Sl → SO :=
  (mFor (.one 3) i2__law_places b2__law_places)
def s2__law_places : List Sl → SO :=
  (mRet (fun S => (aLim (aCons (m2 mulD (getV 0) (getV 1)) (aCons (getF 2) aNil)) S).bind fun ds => .ok (.tup ds)))
def m__law_places : List Sl → SO :=
  (mSeq s0__law_places (mSeq s1__law_places (mSeq (mFrz 2) s2__law_places)))
def f__law_places : List D → R D := runDef 7 2 m__law_places
theorem sc__law_places : FnScope ["_law_things", "_law_places_here", "_law_clauses", "_law_at", "_law_one", "_law_other", "_law_pair"] ["_law_things", "_law_places_here"] (defScope (top 31)) := ⟨rfl, rfl, rfl, by decide +kernel, rfl, by decide +kernel, by decide +kernel⟩
theorem ok__law_places {P : Program} {w : World} {K : PySem.W.Frag} {mg : Str → Option Value} {base : Heap} {C : CL} {f : Addr} {fd : FuncData} (F : Fun K "_law_places" "_law_places" (top 31) f fd) (hm : mg "_law_places" = some (.ref f)) (b : Binds K fd ["_law_things", "_law_places_here"] []) (B : Blt mg) (G : Cst mg) (XT : Xt K mg C) (TT : Tht K C)  :
    Def P w K mg base C 1 "_law_places" ["_law_things", "_law_places_here"] f__law_places := by
  unfold f__law_places
  refine Def.mk' (m := m__law_places) rfl rfl F sc__law_places hm b fun cdv A outer s H E hr => ?_
  have hu65 : (A.deeper (envOfC "_law_places" (defScope (top 31)) s.heap.objs.size f cdv)).units + 65 < cLine := by have := hr.un; omega
  have hu64 := Nat.lt_of_succ_lt hu65
  have hu1 : (A.deeper (envOfC "_law_places" (defScope (top 31)) s.heap.objs.size f cdv)).units + 1 < cLine := by omega
  have sc := sc__law_places
  exact (dss_cons (ds_asgN (ps_lcN (i := 2) (own := [(("_law_one" : Str), 4)]) (t := (.one 4)) rfl sc.nd rfl rfl (sw_true rfl rfl rfl (by decide +kernel)) (DIS.i (dis_range1 (by rfl) B.range (da_cons (dr_var (pv 0)) da_nil))) (by kernel_rfl) (by decide) (fun _ _ _ _ _ => (pg_name (i := 4) sc.nd rfl (by first | exact Or.inl rfl | exact Or.inr rfl))) (fun _ _ _ _ _ => dts_nil) (fun _ _ _ _ _ => (de_callT cd_tup (by rfl) B.tuple PyProof.Rows.boot_tuple (da_cons (DE.r (DN.de (dn_lc (own := [(("_law_at" : Str), 3)]) (t := (.one 3)) rfl sc.nd (DIS.i (dis_range1 (by rfl) B.range (da_cons (dr_var (pv 1)) da_nil))) (by kernel_rfl) (by decide) (fun _ _ _ _ _ => (pg_name (i := 3) sc.nd rfl (by first | exact Or.inl rfl | exact Or.inr rfl))) (fun _ _ _ _ _ => dts_nil) (fun _ _ _ _ _ => (de_bin opd_add (DE.r (de_bin opd_add (DE.r (de_bin opd_mul (dr_var (pv 1)) (dr_var (pv 4)))) (dr_var (pv 3)))) (DE.r de_int)))))) da_nil))))) (dss_cons (ds_for (t := (.one 3)) (passes_of rfl) rfl (dis_range1 (by rfl) B.range (da_cons (dr_var (pv 1)) da_nil)) (pg_name (i := 3) sc.nd rfl (by first | exact Or.inl rfl | exact Or.inr rfl)) (dss_one (ds_for (t := (.one 4)) (passes_of rfl) rfl (dis_range1 (by rfl) B.range (da_cons (dr_var (pv 0)) da_nil)) (pg_name (i := 4) sc.nd rfl (by first | exact Or.inl rfl | exact Or.inr rfl)) (dss_one (ds_for (t := (.one 5)) (passes_of rfl) rfl (dis_range1 (by rfl) B.range (da_cons (dr_var (pv 4)) da_nil)) (pg_name (i := 5) sc.nd rfl (by first | exact Or.inl rfl | exact Or.inr rfl)) (dss_cons (ds_set (i := 6) sc.nd rfl (by first | exact Or.inl rfl | exact Or.inr rfl) (de_tup (dar_cons (de_bin opd_add (DE.r (de_bin opd_add (DE.r (de_bin opd_mul (dr_var (pv 1)) (dr_var (pv 4)))) (dr_var (pv 3)))) (DE.r de_int)) (dar_cons (de_bin opd_add (DE.r (de_bin opd_add (DE.r (de_bin opd_mul (dr_var (pv 1)) (dr_var (pv 5)))) (dr_var (pv 3)))) (DE.r de_int)) dar_nil)))) (dss_one (ds_app (pv 2) (de_tup (dar_cons (de_un und_neg (DE.r (de_ix hu65 (dr_var (pv 6)) (DE.r de_int) (fun _ _ => rfl) (fun _ _ => rfl)))) (dar_cons (de_un und_neg (DE.r (de_ix hu65 (dr_var (pv 6)) (DE.r de_int) (fun _ _ => rfl) (fun _ _ => rfl)))) dar_nil))))))))))) (dss_frz (i := 2) (dss_one (ds_ret (de_tup (dar_cons (de_bin opd_mul (dr_var (pv 0)) (dr_var (pv 1))) (dar_cons (de_var (pv 2)) dar_nil))))))))
/-! ### Keeper___init__ -/
def s0_Keeper___init__ : List Sl → SO :=
  (mFSet 0 0 "variables" (getF 1))
def s1_Keeper___init__ : List Sl → SO :=
  (mFSetND 0 0 "table" (fun _ => .ok []))
def s2_Keeper___init__ : List Sl → SO :=
  (mFSet 0 0 "top" (fun S => ((aCons (getV 2) aNil) S).bind (on1 lenD)))
def s3_Keeper___init__ : List Sl → SO :=
  (mFSet 0 0 "taken" (cst (.int 0)))
def s4_Keeper___init__ : List Sl → SO :=
  (mFSet 0 0 "refuted" (cst (.bl false)))
def i0_Keeper___init__ : List Sl → R (List D) :=
  (fun S => ((aCons (fun S => ((aCons (getV 2) aNil) S).bind (on1 lenD)) aNil) S).bind rng1)
def b0_Keeper___init__ : List Sl → SO :=
  (mFPut 0 0 "table" (m2 addD (getV 3) (cst (.int 1))) (fun S => ((aCons (m2 ixD (getV 2) (getV 3)) aNil) S).bind (on1 tupD)))
def s5_Keeper___init__ : List Sl → SO :=
  (mFor (.one 3) i0_Keeper___init__ b0_Keeper___init__)
def m_Keeper___init__ : List Sl → SO :=
  (mSeq s0_Keeper___init__ (mSeq s1_Keeper___init__ (mSeq s2_Keeper___init__ (mSeq s3_Keeper___init__ (mSeq s4_Keeper___init__ s5_Keeper___init__)))))
def f_Keeper___init__ : List Sl → RS := runM 4 3 m_Keeper___init__
theorem sc_Keeper___init__ : FnScope ["self", "variables", "clauses", "k"] ["self", "variables", "clauses"] (defScope (inClass (top 21) 0)) := ⟨rfl, rfl, rfl, by decide +kernel, rfl, by decide +kernel, by decide +kernel⟩
theorem ok_Keeper___init__ {P : Program} {w : World} {K : PySem.W.Frag} {mg : Str → Option Value} {base : Heap} {C : CL} {f : Addr} {fd : FuncData} (F : Fun K "__init__" "Keeper.__init__" (inClass (top 21) 0) f fd) (hm : Mk K (C.cl 0) f) (hg : mg "Keeper" = some (.ref (C.cl 0))) (b : Binds K fd ["self", "variables", "clauses"] []) (B : Blt mg) (G : Cst mg) (XT : Xt K mg C) (TT : Tht K C)  :
    MkM P w K mg base C 1 0 "Keeper" ["self", "variables", "clauses"] f_Keeper___init__ := by
  unfold f_Keeper___init__
  refine MkM.mk' (m := m_Keeper___init__) rfl rfl F sc_Keeper___init__ hm hg b fun pvs cdv A outer s H E hr => ?_
  have hu65 : (A.deeper (envOfC "Keeper.__init__" (defScope (inClass (top 21) 0)) s.heap.objs.size f cdv)).units + 65 < cLine := by have := hr.un; omega
  have hu64 := Nat.lt_of_succ_lt hu65
  have hu1 : (A.deeper (envOfC "Keeper.__init__" (defScope (inClass (top 21) 0)) s.heap.objs.size f cdv)).units + 1 < cLine := by omega
  have sc := sc_Keeper___init__
  exact (dss_cons (ds_fset (pv 0) ⟨TT.cl_Keeper, TT.n_Keeper_variables⟩ (de_var (pv 1))) (dss_cons (ds_fsetND (pv 0) ⟨TT.cl_Keeper, TT.n_Keeper_table⟩ dnd_new) (dss_cons (ds_fset (pv 0) ⟨TT.cl_Keeper, TT.n_Keeper_top⟩ (de_callB cd_len (by rfl) B.len PySem.boot_len (da_cons (dr_var (pv 2)) da_nil))) (dss_cons (ds_fset (pv 0) ⟨TT.cl_Keeper, TT.n_Keeper_taken⟩ de_int) (dss_cons (ds_fset (pv 0) ⟨TT.cl_Keeper, TT.n_Keeper_refuted⟩ de_bl) (dss_one (ds_for (t := (.one 3)) (passes_of rfl) rfl (dis_range1 (by rfl) B.range (da_cons (DE.r (de_callB cd_len (by rfl) B.len PySem.boot_len (da_cons (dr_var (pv 2)) da_nil))) da_nil)) (pg_name (i := 3) sc.nd rfl (by first | exact Or.inl rfl | exact Or.inr rfl)) (dss_one (ds_fput hu1 (pv 0) ⟨TT.cl_Keeper, TT.n_Keeper_table⟩ (DE.r (de_bin opd_add (dr_var (pv 3)) (DE.r de_int))) (de_callT cd_tup (by rfl) B.tuple PyProof.Rows.boot_tuple (da_cons (DE.r (de_ix hu65 (dr_var (pv 2)) (dr_var (pv 3)) (fun _ _ => rfl) (fun _ _ => rfl))) da_nil)))))))))))
/-! ### has_both -/
def e0_has_both : List Sl → R D :=
  (m2 inD (m1 negD (getV 1)) (getV 0))
def s0_has_both : List Sl → SO :=
  (mRet (fun S => ((aCons (fun S => ((mLc (.one 1) [1] (mItems (getV 0)) mYes e0_has_both) S).bind fun ds => .ok (.lst ds)) aNil) S).bind (on1 anyD)))
def m_has_both : List Sl → SO :=
  s0_has_both
def f_has_both : List D → R D := runDef 2 1 m_has_both
theorem sc_has_both : FnScope ["clause", "literal"] ["clause"] (defScope (top 3)) := ⟨rfl, rfl, rfl, by decide +kernel, rfl, by decide +kernel, by decide +kernel⟩
theorem ok_has_both {P : Program} {w : World} {K : PySem.W.Frag} {mg : Str → Option Value} {base : Heap} {C : CL} {f : Addr} {fd : FuncData} (F : Fun K "has_both" "has_both" (top 3) f fd) (hm : mg "has_both" = some (.ref f)) (b : Binds K fd ["clause"] []) (B : Blt mg) (G : Cst mg) (XT : Xt K mg C) (TT : Tht K C)  :
    Def P w K mg base C 1 "has_both" ["clause"] f_has_both := by
  unfold f_has_both
  refine Def.mk' (m := m_has_both) rfl rfl F sc_has_both hm b fun cdv A outer s H E hr => ?_
  have hu65 : (A.deeper (envOfC "has_both" (defScope (top 3)) s.heap.objs.size f cdv)).units + 65 < cLine := by have := hr.un; omega
  have hu64 := Nat.lt_of_succ_lt hu65
  have hu1 : (A.deeper (envOfC "has_both" (defScope (top 3)) s.heap.objs.size f cdv)).units + 1 < cLine := by omega
  have sc := sc_has_both
  exact (dss_one (ds_ret (de_callB (cd_any rfl) (by rfl) B.any PyProof.Rows.boot_any (da_cons (DE.r (DN.de (dn_lc (own := [(("literal" : Str), 1)]) (t := (.one 1)) rfl sc.nd (di_seq (dr_var (pv 0))) (by kernel_rfl) (by decide) (fun _ _ _ _ _ => (pg_name (i := 1) sc.nd rfl (by first | exact Or.inl rfl | exact Or.inr rfl))) (fun _ _ _ _ _ => dts_nil) (fun _ _ _ _ _ => (de_cmp (dc_in hu65 (DE.r (de_un und_neg (dr_var (pv 1)))) (dr_var (pv 0))) (by first | exact nobehind _ (by decide) (by decide) | rfl)))))) da_nil))))
/-! ### walked -/
def s0_walked : List Sl → SO :=
  (mSet 3 (cst (.int 0)))
def b0_walked : List Sl → SO :=
  (mSeq (mIfS (fun S => ((m2 ltD (getV 4) (cst (.int 0))) S).bind tBl) (mRetS (fun S => (aLim (aCons (cst (.str "out")) (aCons (getF 3) aNil)) S).bind fun ds => .ok (.tup ds))) mSkip) (mSeq (mIfS (fun S => ((m2 notInD (getV 4) (getV 0)) S).bind tBl) (mRetS (fun S => (aLim (aCons (cst (.str "wrong")) (aCons (getF 3) aNil)) S).bind fun ds => .ok (.tup ds))) mSkip) (mSeq (mSet 5 (fun S => ((fun S => ((aCons (getV 1) (aCons (m2 ixD (getV 0) (getV 4)) aNil)) S).bind fun xs => ((f_opened xs).toN).bind scalL) S).bind fun ds => .ok (.lst ds))) (mSeq (mSet 3 (m2 addD (getV 3) (cst (.int 1)))) (mSeq (mIfS (tNot1 (fun S => ((getV 5) S).bind trD)) (mRetS (fun S => (aLim (aCons (cst (.str "ended")) (aCons (getF 3) aNil)) S).bind fun ds => .ok (.tup ds))) mSkip) (mSeq (mIfS (tOr2 (fun S => ((m2 gtD (fun S => ((aCons (getV 5) aNil) S).bind (on1 lenD)) (cst (.int 1))) S).bind tBl) (fun S => ((fun S => ((aCons (getV 1) (aCons (m2 ixD (getV 5) (cst (.int 0))) aNil)) S).bind fun xs => (f_is_true xs).bind scalD) S).bind trD)) (mRetS (fun S => (aLim (aCons (cst (.str "wrong")) (aCons (getF 3) aNil)) S).bind fun ds => .ok (.tup ds))) mSkip) (mPut 1 (fun S => ((aCons (m2 ixD (getV 5) (cst (.int 0))) aNil) S).bind (on1 absD)) (m2 ixD (getV 5) (cst (.int 0))))))))))
def s1_walked : List Sl → SO :=
  (mFor (.one 4) (mItems (getF 2)) b0_walked)
def s2_walked : List Sl → SO :=
  (mRetS (fun S => (aLim (aCons (cst (.str "out")) (aCons (getF 3) aNil)) S).bind fun ds => .ok (.tup ds)))
def m_walked : List Sl → SO :=
  (mSeq s0_walked (mSeq s1_walked s2_walked))
def f_walked : List Sl → RS := runM 6 3 m_walked
theorem sc_walked : FnScope ["table", "truths", "hints", "used", "hint", "left"] ["table", "truths", "hints"] (defScope (top 15)) := ⟨rfl, rfl, rfl, by decide +kernel, rfl, by decide +kernel, by decide +kernel⟩
theorem ok_walked {P : Program} {w : World} {K : PySem.W.Frag} {mg : Str → Option Value} {base : Heap} {C : CL} {f : Addr} {fd : FuncData} (F : Fun K "walked" "walked" (top 15) f fd) (hm : mg "walked" = some (.ref f)) (b : Binds K fd ["table", "truths", "hints"] []) (B : Blt mg) (G : Cst mg) (XT : Xt K mg C) (TT : Tht K C) (D_opened : DefO P w K mg base C 2 "opened" ["truths", "clause"] f_opened) (D_is_true : Def P w K mg base C 1 "is_true" ["truths", "literal"] f_is_true) :
    DefM P w K mg base C 3 "walked" ["table", "truths", "hints"] f_walked := by
  unfold f_walked
  refine DefM.mk' (m := m_walked) rfl rfl F sc_walked hm b fun pvs cdv A outer s H E hr => ?_
  have hu65 : (A.deeper (envOfC "walked" (defScope (top 15)) s.heap.objs.size f cdv)).units + 65 < cLine := by have := hr.un; omega
  have hu64 := Nat.lt_of_succ_lt hu65
  have hu1 : (A.deeper (envOfC "walked" (defScope (top 15)) s.heap.objs.size f cdv)).units + 1 < cLine := by omega
  have sc := sc_walked
  exact (dss_cons (ds_set (i := 3) sc.nd rfl (by first | exact Or.inl rfl | exact Or.inr rfl) de_int) (dss_cons (ds_for (t := (.one 4)) (passes_of rfl) rfl (dis_seq (de_var (pv 2))) (pg_name (i := 4) sc.nd rfl (by first | exact Or.inl rfl | exact Or.inr rfl)) (dss_cons (ds_if (dt_cmp (dc_op opd_lt (dr_var (pv 4)) (DE.r de_int)) (by first | exact nobehind _ (by decide) (by decide) | rfl)) (dss_one (ds_retS (de_tup (dar_cons de_str (dar_cons (de_var (pv 3)) dar_nil))))) dss_nil) (dss_cons (ds_if (dt_cmp (dc_notIn hu65 (dr_var (pv 4)) (dr_var (pv 0))) (by first | exact nobehind _ (by decide) (by decide) | rfl)) (dss_one (ds_retS (de_tup (dar_cons de_str (dar_cons (de_var (pv 3)) dar_nil))))) dss_nil) (dss_cons (ds_set (i := 5) sc.nd rfl (by first | exact Or.inl rfl | exact Or.inr rfl) (DN.de (dn_callOV (D_opened.pa pvs) hr (by decide) (takes_of rfl rfl rfl rfl) (by rfl) (da_cons (dr_var (pv 1)) (da_cons (DE.r (de_ix hu65 (dr_var (pv 0)) (dr_var (pv 4)) (fun _ _ => rfl) (fun _ _ => rfl))) da_nil)) (len_cons (len_cons len_nil))))) (dss_cons (ds_set (i := 3) sc.nd rfl (by first | exact Or.inl rfl | exact Or.inr rfl) (de_bin opd_add (dr_var (pv 3)) (DE.r de_int))) (dss_cons (ds_if (dt_not (dt_tru (dr_var (pv 5)) (fun _ => rfl))) (dss_one (ds_retS (de_tup (dar_cons de_str (dar_cons (de_var (pv 3)) dar_nil))))) dss_nil) (dss_cons (ds_if (dt_w (dw_or (dt_cmp (dc_op opd_gt (DE.r (de_callB cd_len (by rfl) B.len PySem.boot_len (da_cons (dr_var (pv 5)) da_nil))) (DE.r de_int)) (by first | exact nobehind _ (by decide) (by decide) | rfl)) (dw_or1 (dt_tru (DE.r (de_callV (D_is_true.pa pvs) hr (by decide) (takes_of rfl rfl rfl rfl) (by rfl) (da_cons (dr_var (pv 1)) (da_cons (DE.r (de_ix hu65 (dr_var (pv 5)) (DE.r de_int) (fun _ _ => rfl) (fun _ _ => rfl))) da_nil)) (len_cons (len_cons len_nil)))) (fun _ => rfl))))) (dss_one (ds_retS (de_tup (dar_cons de_str (dar_cons (de_var (pv 3)) dar_nil))))) dss_nil) (dss_one (ds_put hu1 (pv 1) (DE.r (de_callB cd_abs (by rfl) B.abs PyProof.Rows.boot_abs (da_cons (DE.r (de_ix hu65 (dr_var (pv 5)) (DE.r de_int) (fun _ _ => rfl) (fun _ _ => rfl))) da_nil))) (de_ix hu65 (dr_var (pv 5)) (DE.r de_int) (fun _ _ => rfl) (fun _ _ => rfl))))))))))) (dss_one (ds_retS (de_tup (dar_cons de_str (dar_cons (de_var (pv 3)) dar_nil)))))))
/-! ### parted -/
def s0_parted : List Sl → SO :=
  (mSetN 1 (aLim aNil))
def b0_parted : List Sl → SO :=
  (mIfS (fun S => ((m2 ltD (getV 2) (cst (.int 0))) S).bind tBl) (mGrpT 1 (m1 negD (getV 2))) (mGApp 1 (m1 negD (cst (.int 1))) (cst (.int 1)) (getV 2)))
def s1_parted : List Sl → SO :=
  (mFor (.one 2) (mItems (getF 0)) b0_parted)
def s2_parted : List Sl → SO :=
  (mRet (getF 1))
def m_parted : List Sl → SO :=
  (mSeq s0_parted (mSeq (mToG 1 false) (mSeq s1_parted (mSeq (mFrz 1) s2_parted))))
def f_parted : List D → R D := runDef 3 1 m_parted
theorem sc_parted : FnScope ["hints", "found", "hint"] ["hints"] (defScope (top 16)) := ⟨rfl, rfl, rfl, by decide +kernel, rfl, by decide +kernel, by decide +kernel⟩
theorem ok_parted {P : Program} {w : World} {K : PySem.W.Frag} {mg : Str → Option Value} {base : Heap} {C : CL} {f : Addr} {fd : FuncData} (F : Fun K "parted" "parted" (top 16) f fd) (hm : mg "parted" = some (.ref f)) (b : Binds K fd ["hints"] []) (B : Blt mg) (G : Cst mg) (XT : Xt K mg C) (TT : Tht K C)  :
    Def P w K mg base C 1 "parted" ["hints"] f_parted := by
  unfold f_parted
  refine Def.mk' (m := m_parted) rfl rfl F sc_parted hm b fun cdv A outer s H E hr => ?_
  have hu65 : (A.deeper (envOfC "parted" (defScope (top 16)) s.heap.objs.size f cdv)).units + 65 < cLine := by have := hr.un; omega
  have hu64 := Nat.lt_of_succ_lt hu65
  have hu1 : (A.deeper (envOfC "parted" (defScope (top 16)) s.heap.objs.size f cdv)).units + 1 < cLine := by omega
  have sc := sc_parted
  exact (dss_cons (ds_setN (i := 1) sc.nd rfl (by first | exact Or.inl rfl | exact Or.inr rfl) (dn_lst dar_nil)) (dss_toG (i := 1) (b := false) (dss_cons (ds_for (t := (.one 2)) (passes_of rfl) rfl (dis_seq (de_var (pv 0))) (pg_name (i := 2) sc.nd rfl (by first | exact Or.inl rfl | exact Or.inr rfl)) (dss_one (ds_if (dt_cmp (dc_op opd_lt (dr_var (pv 2)) (DE.r de_int)) (by first | exact nobehind _ (by decide) (by decide) | rfl)) (dss_one (ds_grp (pv 1) (DE.r (de_un und_neg (dr_var (pv 2)))))) (dss_one (ds_gapp (pv 1) (DE.r (de_un und_neg (DE.r de_int))) (DE.r de_int) (dr_var (pv 2)) (fun _ _ => rfl) (fun _ _ => rfl)))))) (dss_frz (i := 1) (dss_one (ds_ret (de_var (pv 1))))))))
/-! ### group_holds -/
def s0_group_holds : List Sl → SO :=
  (mSetND 1 (fun S => ((aCons (getV 1) aNil) S).bind dctD))
def b0_group_holds : List Sl → SO :=
  (mIfS (fun S => ((m2 neD (getV 5) (m1 negD (getV 2))) S).bind tBl) (mSeq (mIfS (fun S => ((fun S => ((aCons (getV 1) (aCons (getV 5) aNil)) S).bind fun xs => (f_is_true xs).bind scalD) S).bind trD) (mRet (mNot (getV 4))) mSkip) (mPut 1 (fun S => ((aCons (getV 5) aNil) S).bind (on1 absD)) (m1 negD (getV 5)))) mSkip)
def s1_group_holds : List Sl → SO :=
  (mFor (.one 5) (mItems (m2 ixD (getV 0) (getV 3))) b0_group_holds)
def s2_group_holds : List Sl → SO :=
  (mSetM 6 (mCallM 1 f_walked (aConsW (getF 0) (aHere 1 (aCons (getF 4) aNil)))))
def s3_group_holds : List Sl → SO :=
  (mRet (m2 eqD (getV 6) (fun S => (aLim (aCons (cst (.str "ended")) (aCons (fun S => ((aCons (getV 4) aNil) S).bind (on1 lenD)) aNil)) S).bind fun ds => .ok (.tup ds))))
def m_group_holds : List Sl → SO :=
  (mSeq s0_group_holds (mSeq s1_group_holds (mSeq s2_group_holds s3_group_holds)))
def f_group_holds : List D → R D := runDef 7 5 m_group_holds
theorem sc_group_holds : FnScope ["table", "truths", "first", "number", "hints", "literal", "end"] ["table", "truths", "first", "number", "hints"] (defScope (top 17)) := ⟨rfl, rfl, rfl, by decide +kernel, rfl, by decide +kernel, by decide +kernel⟩
theorem ok_group_holds {P : Program} {w : World} {K : PySem.W.Frag} {mg : Str → Option Value} {base : Heap} {C : CL} {f : Addr} {fd : FuncData} (F : Fun K "group_holds" "group_holds" (top 17) f fd) (hm : mg "group_holds" = some (.ref f)) (b : Binds K fd ["table", "truths", "first", "number", "hints"] []) (B : Blt mg) (G : Cst mg) (XT : Xt K mg C) (TT : Tht K C) (D_is_true : Def P w K mg base C 1 "is_true" ["truths", "literal"] f_is_true) (D_walked : DefM P w K mg base C 3 "walked" ["table", "truths", "hints"] f_walked) :
    Def P w K mg base C 4 "group_holds" ["table", "truths", "first", "number", "hints"] f_group_holds := by
  unfold f_group_holds
  refine Def.mk' (m := m_group_holds) rfl rfl F sc_group_holds hm b fun cdv A outer s H E hr => ?_
  have hu65 : (A.deeper (envOfC "group_holds" (defScope (top 17)) s.heap.objs.size f cdv)).units + 65 < cLine := by have := hr.un; omega
  have hu64 := Nat.lt_of_succ_lt hu65
  have hu1 : (A.deeper (envOfC "group_holds" (defScope (top 17)) s.heap.objs.size f cdv)).units + 1 < cLine := by omega
  have sc := sc_group_holds
  exact (dss_cons (ds_setND (i := 1) sc.nd rfl (by first | exact Or.inl rfl | exact Or.inr rfl) (dnd_dict (by rfl) B.dict (da_cons (dr_var (pv 1)) da_nil))) (dss_cons (ds_for (t := (.one 5)) (passes_of rfl) rfl (dis_seq (de_ix hu65 (dr_var (pv 0)) (dr_var (pv 3)) (fun _ _ => rfl) (fun _ _ => rfl))) (pg_name (i := 5) sc.nd rfl (by first | exact Or.inl rfl | exact Or.inr rfl)) (dss_one (ds_if (dt_cmp (dc_op (opd_ne hu64) (dr_var (pv 5)) (DE.r (de_un und_neg (dr_var (pv 2))))) (by first | exact nobehind _ (by decide) (by decide) | rfl)) (dss_cons (ds_if (dt_tru (DE.r (de_callV D_is_true hr (by decide) (takes_of rfl rfl rfl rfl) (by rfl) (da_cons (dr_var (pv 1)) (da_cons (dr_var (pv 5)) da_nil)) (len_cons (len_cons len_nil)))) (fun _ => rfl)) (dss_one (ds_ret (de_not (dr_var (pv 4))))) dss_nil) (dss_one (ds_put hu1 (pv 1) (DE.r (de_callB cd_abs (by rfl) B.abs PyProof.Rows.boot_abs (da_cons (dr_var (pv 5)) da_nil))) (de_un und_neg (dr_var (pv 5)))))) dss_nil))) (dss_cons (ds_setM (i := 6) sc.nd rfl (by first | exact Or.inl rfl | exact Or.inr rfl) (dem_call D_walked hr (by decide) (takes_of rfl rfl rfl rfl) (by rfl) (daw_cons (de_var (pv 0)) (daw_here (pv 1) (dar_cons (de_var (pv 4)) dar_nil))) (lenW_cons (lenW_here (len_cons len_nil))))) (dss_one (ds_ret (de_cmp (dc_op (opd_eq hu64) (dr_var (pv 6)) (DE.r (de_tup (dar_cons de_str (dar_cons (de_callB cd_len (by rfl) B.len PySem.boot_len (da_cons (dr_var (pv 4)) da_nil)) dar_nil))))) (by first | exact nobehind _ (by decide) (by decide) | rfl)))))))
/-! ### groups_hold -/
def s0_groups_hold : List Sl → SO :=
  (mSet 4 (fun S => ((aCons (getF 3) aNil) S).bind f_parted))
def c0_groups_hold : List Sl → R Bool :=
  (fun S => ((m2 inD (m1 negD (getV 2)) (m2 ixD (getV 0) (getV 6))) S).bind tBl)
def e0_groups_hold : List Sl → R D :=
  (getF 6)
def s1_groups_hold : List Sl → SO :=
  (mSet 5 (fun S => ((mLcK 0 (.one 6) [6] c0_groups_hold e0_groups_hold) S).bind fun ds => .ok (.lst ds)))
def e1_groups_hold : List Sl → R D :=
  (m2 ixD (getV 7) (cst (.int 0)))
def s2_groups_hold : List Sl → SO :=
  (mIfS (fun S => ((m2 neD (fun S => ((fun S => ((aCons (fun S => ((mLc (.one 7) [7] (mItems (getV 4)) mYes e1_groups_hold) S).bind fun ds => .ok (.lst ds)) aNil) S).bind (onN sortedD)) S).bind fun ds => .ok (.lst ds)) (fun S => ((fun S => ((aCons (getV 5) aNil) S).bind (onN sortedD)) S).bind fun ds => .ok (.lst ds))) S).bind tBl) (mRet (cst (.bl false))) mSkip)
def e2_groups_hold : List Sl → R D :=
  (fun S => ((aCons (getF 0) (aCons (getF 1) (aCons (getF 2) (aCons (m2 ixD (getV 7) (cst (.int 0))) (aCons (m2 ixD (getV 7) (cst (.int 1))) aNil))))) S).bind f_group_holds)
def s3_groups_hold : List Sl → SO :=
  (mRet (fun S => ((aCons (fun S => ((mLc (.one 7) [7] (mItems (getV 4)) mYes e2_groups_hold) S).bind fun ds => .ok (.lst ds)) aNil) S).bind (on1 allD)))
def m_groups_hold : List Sl → SO :=
  (mSeq s0_groups_hold (mSeq s1_groups_hold (mSeq s2_groups_hold s3_groups_hold)))
def f_groups_hold : List D → R D := runDef 8 4 m_groups_hold
theorem sc_groups_hold : FnScope ["table", "truths", "first", "hints", "groups", "wanted", "number", "group"] ["table", "truths", "first", "hints"] (defScope (top 18)) := ⟨rfl, rfl, rfl, by decide +kernel, rfl, by decide +kernel, by decide +kernel⟩
theorem ok_groups_hold {P : Program} {w : World} {K : PySem.W.Frag} {mg : Str → Option Value} {base : Heap} {C : CL} {f : Addr} {fd : FuncData} (F : Fun K "groups_hold" "groups_hold" (top 18) f fd) (hm : mg "groups_hold" = some (.ref f)) (b : Binds K fd ["table", "truths", "first", "hints"] []) (B : Blt mg) (G : Cst mg) (XT : Xt K mg C) (TT : Tht K C) (D_parted : Def P w K mg base C 1 "parted" ["hints"] f_parted) (D_group_holds : Def P w K mg base C 4 "group_holds" ["table", "truths", "first", "number", "hints"] f_group_holds) :
    Def P w K mg base C 5 "groups_hold" ["table", "truths", "first", "hints"] f_groups_hold := by
  unfold f_groups_hold
  refine Def.mk' (m := m_groups_hold) rfl rfl F sc_groups_hold hm b fun cdv A outer s H E hr => ?_
  have hu65 : (A.deeper (envOfC "groups_hold" (defScope (top 18)) s.heap.objs.size f cdv)).units + 65 < cLine := by have := hr.un; omega
  have hu64 := Nat.lt_of_succ_lt hu65
  have hu1 : (A.deeper (envOfC "groups_hold" (defScope (top 18)) s.heap.objs.size f cdv)).units + 1 < cLine := by omega
  have sc := sc_groups_hold
  exact (dss_cons (ds_set (i := 4) sc.nd rfl (by first | exact Or.inl rfl | exact Or.inr rfl) (de_call D_parted hr (by decide) (takes_of rfl rfl rfl rfl) rfl (dar_cons (de_var (pv 3)) dar_nil) rfl (len_cons len_nil))) (dss_cons (ds_asg (ps_N_E (ps_lcKN (pv 0) (i := 5) (own := [(("number" : Str), 6)]) (t := (.one 6)) rfl sc.nd rfl rfl (sw_true rfl rfl rfl (by decide +kernel))  (by kernel_rfl) (by decide) (fun _ _ _ _ _ => (pg_name (i := 6) sc.nd rfl (by first | exact Or.inl rfl | exact Or.inr rfl))) (fun _ _ _ _ _ => (dts_one (dt_cmp (dc_in hu65 (DE.r (de_un und_neg (dr_var (pv 2)))) (DE.r (de_ix hu65 (dr_var (pv 0)) (dr_var (pv 6)) (fun _ _ => rfl) (fun _ _ => rfl)))) (by first | exact nobehind _ (by decide) (by decide) | rfl)))) (fun _ _ _ _ _ => (de_var (pv 6)))))) (dss_cons (ds_if (dt_cmp (dc_op (opd_ne hu64) (DE.r (DN.de (dn_callB (cn_sorted rfl) (by rfl) B.sorted PyProof.Rows.boot_sorted (da_cons (DE.r (DN.de (dn_lc (own := [(("group" : Str), 7)]) (t := (.one 7)) rfl sc.nd (di_seq (dr_var (pv 4))) (by kernel_rfl) (by decide) (fun _ _ _ _ _ => (pg_name (i := 7) sc.nd rfl (by first | exact Or.inl rfl | exact Or.inr rfl))) (fun _ _ _ _ _ => dts_nil) (fun _ _ _ _ _ => (de_ix hu65 (dr_var (pv 7)) (DE.r de_int) (fun _ _ => rfl) (fun _ _ => rfl)))))) da_nil)))) (DE.r (DN.de (dn_callB (cn_sorted rfl) (by rfl) B.sorted PyProof.Rows.boot_sorted (da_cons (dr_var (pv 5)) da_nil))))) (by first | exact nobehind _ (by decide) (by decide) | rfl)) (dss_one (ds_ret de_bl)) dss_nil) (dss_one (ds_ret (de_callB (cd_all rfl) (by rfl) B.all PyProof.Rows.boot_all (da_cons (DE.r (DN.de (dn_lc (own := [(("group" : Str), 7)]) (t := (.one 7)) rfl sc.nd (di_seq (dr_var (pv 4))) (by kernel_rfl) (by decide) (fun _ _ _ _ _ => (pg_name (i := 7) sc.nd rfl (by first | exact Or.inl rfl | exact Or.inr rfl))) (fun _ _ _ _ _ => dts_nil) (fun _ _ _ _ _ => (de_call D_group_holds hr (by decide) takes0 rfl (dar_cons (de_var (pv 0)) (dar_cons (de_var (pv 1)) (dar_cons (de_var (pv 2)) (dar_cons (de_ix hu65 (dr_var (pv 7)) (DE.r de_int) (fun _ _ => rfl) (fun _ _ => rfl)) (dar_cons (de_ix hu65 (dr_var (pv 7)) (DE.r de_int) (fun _ _ => rfl) (fun _ _ => rfl)) dar_nil))))) rfl (len_cons (len_cons (len_cons (len_cons (len_cons len_nil)))))))))) da_nil)))))))
/-! ### follows -/
def s0_follows : List Sl → SO :=
  (mIfS (fun S => ((fun S => ((aCons (getF 1) aNil) S).bind f_has_both) S).bind trD) (mRet (cst (.bl true))) mSkip)
def e0_follows : List Sl → R D :=
  (m1 negD (getV 5))
def s1_follows : List Sl → SO :=
  (mSetND 3 (fun S => ((aCons (fun S => ((mLc (.one 5) [5] (mItems (getV 1)) mYes e0_follows) S).bind fun ds => .ok (.lst ds)) aNil) S).bind fun xs => (f_made xs).toND))
def s2_follows : List Sl → SO :=
  (mSetM 4 (mCallM 3 f_walked (aConsW (getF 0) (aHere 3 (aCons (getF 2) aNil)))))
def s3_follows : List Sl → SO :=
  (mIfS (fun S => ((m2 eqD (m2 ixD (getV 4) (cst (.int 0))) (cst (.str "ended"))) S).bind tBl) (mRet (cst (.bl true))) mSkip)
def s4_follows : List Sl → SO :=
  (mIfS (tOr2 (fun S => ((m2 eqD (m2 ixD (getV 4) (cst (.int 0))) (cst (.str "wrong"))) S).bind tBl) (tNot1 (fun S => ((getV 1) S).bind trD))) (mRet (cst (.bl false))) mSkip)
def s5_follows : List Sl → SO :=
  (mRet (fun S => ((aCons (getV 0) (aCons (getV 3) (aCons (m2 ixD (getV 1) (cst (.int 0))) (aCons (mSl (getV 2) (oSome (m2 ixD (getV 4) (cst (.int 1)))) oNo) aNil)))) S).bind fun xs => (f_groups_hold xs).bind scalD))
def m_follows : List Sl → SO :=
  (mSeq s0_follows (mSeq s1_follows (mSeq s2_follows (mSeq s3_follows (mSeq s4_follows s5_follows)))))
def f_follows : List D → R D := runDef 6 3 m_follows
theorem sc_follows : FnScope ["table", "clause", "hints", "truths", "end", "literal"] ["table", "clause", "hints"] (defScope (top 19)) := ⟨rfl, rfl, rfl, by decide +kernel, rfl, by decide +kernel, by decide +kernel⟩
theorem ok_follows {P : Program} {w : World} {K : PySem.W.Frag} {mg : Str → Option Value} {base : Heap} {C : CL} {f : Addr} {fd : FuncData} (F : Fun K "follows" "follows" (top 19) f fd) (hm : mg "follows" = some (.ref f)) (b : Binds K fd ["table", "clause", "hints"] []) (B : Blt mg) (G : Cst mg) (XT : Xt K mg C) (TT : Tht K C) (D_has_both : Def P w K mg base C 1 "has_both" ["clause"] f_has_both) (D_made : DefO P w K mg base C 1 "made" ["literals"] f_made) (D_walked : DefM P w K mg base C 3 "walked" ["table", "truths", "hints"] f_walked) (D_groups_hold : Def P w K mg base C 5 "groups_hold" ["table", "truths", "first", "hints"] f_groups_hold) :
    Def P w K mg base C 6 "follows" ["table", "clause", "hints"] f_follows := by
  unfold f_follows
  refine Def.mk' (m := m_follows) rfl rfl F sc_follows hm b fun cdv A outer s H E hr => ?_
  have hu65 : (A.deeper (envOfC "follows" (defScope (top 19)) s.heap.objs.size f cdv)).units + 65 < cLine := by have := hr.un; omega
  have hu64 := Nat.lt_of_succ_lt hu65
  have hu1 : (A.deeper (envOfC "follows" (defScope (top 19)) s.heap.objs.size f cdv)).units + 1 < cLine := by omega
  have sc := sc_follows
  exact (dss_cons (ds_if (dt_tru (DE.r (de_call D_has_both hr (by decide) (takes_of rfl rfl rfl rfl) rfl (dar_cons (de_var (pv 1)) dar_nil) rfl (len_cons len_nil))) (fun _ => rfl)) (dss_one (ds_ret de_bl)) dss_nil) (dss_cons (ds_setND (i := 3) sc.nd rfl (by first | exact Or.inl rfl | exact Or.inr rfl) (dnd_callO D_made hr (by decide) (takes_of rfl rfl rfl rfl) rfl (dar_cons (DN.de (dn_lc (own := [(("literal" : Str), 5)]) (t := (.one 5)) rfl sc.nd (di_seq (dr_var (pv 1))) (by kernel_rfl) (by decide) (fun _ _ _ _ _ => (pg_name (i := 5) sc.nd rfl (by first | exact Or.inl rfl | exact Or.inr rfl))) (fun _ _ _ _ _ => dts_nil) (fun _ _ _ _ _ => (de_un und_neg (dr_var (pv 5)))))) dar_nil) (len_cons len_nil))) (dss_cons (ds_setM (i := 4) sc.nd rfl (by first | exact Or.inl rfl | exact Or.inr rfl) (dem_call D_walked hr (by decide) (takes_of rfl rfl rfl rfl) (by rfl) (daw_cons (de_var (pv 0)) (daw_here (pv 3) (dar_cons (de_var (pv 2)) dar_nil))) (lenW_cons (lenW_here (len_cons len_nil))))) (dss_cons (ds_if (dt_cmp (dc_op (opd_eq hu64) (DE.r (de_ix hu65 (dr_var (pv 4)) (DE.r de_int) (fun _ _ => rfl) (fun _ _ => rfl))) (DE.r de_str)) (by first | exact nobehind _ (by decide) (by decide) | rfl)) (dss_one (ds_ret de_bl)) dss_nil) (dss_cons (ds_if (dt_w (dw_or (dt_cmp (dc_op (opd_eq hu64) (DE.r (de_ix hu65 (dr_var (pv 4)) (DE.r de_int) (fun _ _ => rfl) (fun _ _ => rfl))) (DE.r de_str)) (by first | exact nobehind _ (by decide) (by decide) | rfl)) (dw_or1 (dt_not (dt_tru (dr_var (pv 1)) (fun _ => rfl)))))) (dss_one (ds_ret de_bl)) dss_nil) (dss_one (ds_ret (de_callV D_groups_hold hr (by decide) (takes_of rfl rfl rfl rfl) (by rfl) (da_cons (dr_var (pv 0)) (da_cons (dr_var (pv 3)) (da_cons (DE.r (de_ix hu65 (dr_var (pv 1)) (DE.r de_int) (fun _ _ => rfl) (fun _ _ => rfl))) (da_cons (DE.r (de_sl (dr_var (pv 2)) (do_some (DE.r (de_ix hu65 (dr_var (pv 4)) (DE.r de_int) (fun _ _ => rfl) (fun _ _ => rfl)))) do_no)) da_nil)))) (len_cons (len_cons (len_cons (len_cons len_nil))))))))))))
/-! ### Keeper_grow -/
def e0_Keeper_grow : List Sl → R D :=
  (m3 ltD leD (cst (.int 0)) (fun S => ((aCons (getV 5) aNil) S).bind (on1 absD)) (getFV 0 0 "variables"))
def s0_Keeper_grow : List Sl → SO :=
  (mSet 4 (mAnd2 (m2 gtD (getV 1) (getFV 0 0 "top")) (fun S => ((aCons (fun S => ((mLc (.one 5) [5] (mItems (getV 2)) mYes e0_Keeper_grow) S).bind fun ds => .ok (.lst ds)) aNil) S).bind (on1 allD))))
def s1_Keeper_grow : List Sl → SO :=
  (mIfS (tOr2 (tNot1 (fun S => ((getV 4) S).bind trD)) (tNot1 (fun S => ((fun S => ((aCons (getFV 0 0 "table") (aCons (getV 2) (aCons (getV 3) aNil))) S).bind fun xs => (f_follows xs).bind scalD) S).bind trD))) (mRaise_NotRight (getFV 0 0 "taken")) mSkip)
def s2_Keeper_grow : List Sl → SO :=
  (mFSet 0 0 "top" (getF 1))
def s3_Keeper_grow : List Sl → SO :=
  (mFPut 0 0 "table" (getV 1) (fun S => ((aCons (getV 2) aNil) S).bind (on1 tupD)))
def s4_Keeper_grow : List Sl → SO :=
  (mIfS (tNot1 (fun S => ((getV 2) S).bind trD)) (mFSet 0 0 "refuted" (cst (.bl true))) mSkip)
def m_Keeper_grow : List Sl → SO :=
  (mSeq s0_Keeper_grow (mSeq s1_Keeper_grow (mSeq s2_Keeper_grow (mSeq s3_Keeper_grow s4_Keeper_grow))))
def f_Keeper_grow : List Sl → RS := runM 6 4 m_Keeper_grow
theorem sc_Keeper_grow : FnScope ["self", "number", "clause", "hints", "good", "literal"] ["self", "number", "clause", "hints"] (defScope (inClass (top 21) 2)) := ⟨rfl, rfl, rfl, by decide +kernel, rfl, by decide +kernel, by decide +kernel⟩
theorem ok_Keeper_grow {P : Program} {w : World} {K : PySem.W.Frag} {mg : Str → Option Value} {base : Heap} {C : CL} {f : Addr} {fd : FuncData} (F : Fun K "grow" "Keeper.grow" (inClass (top 21) 2) f fd) (hm : Meth K (C.cl 0) "grow" f) (b : Binds K fd ["self", "number", "clause", "hints"] []) (B : Blt mg) (G : Cst mg) (XT : Xt K mg C) (TT : Tht K C) (D_follows : Def P w K mg base C 6 "follows" ["table", "clause", "hints"] f_follows) :
    MetM P w K mg base C 7 0 "grow" ["self", "number", "clause", "hints"] f_Keeper_grow := by
  unfold f_Keeper_grow
  refine MetM.mk' (m := m_Keeper_grow) rfl rfl F sc_Keeper_grow hm b fun pvs cdv A outer s H E hr => ?_
  have hu65 : (A.deeper (envOfC "Keeper.grow" (defScope (inClass (top 21) 2)) s.heap.objs.size f cdv)).units + 65 < cLine := by have := hr.un; omega
  have hu64 := Nat.lt_of_succ_lt hu65
  have hu1 : (A.deeper (envOfC "Keeper.grow" (defScope (inClass (top 21) 2)) s.heap.objs.size f cdv)).units + 1 < cLine := by omega
  have sc := sc_Keeper_grow
  exact (dss_cons (ds_set (i := 4) sc.nd rfl (by first | exact Or.inl rfl | exact Or.inr rfl) (de_and (de_cmp (dc_op opd_gt (dr_var (pv 1)) (dr_fld (pv 0) ⟨TT.cl_Keeper, TT.n_Keeper_top⟩)) (by first | exact nobehind _ (by decide) (by decide) | rfl)) (de_one (de_callB (cd_all rfl) (by rfl) B.all PyProof.Rows.boot_all (da_cons (DE.r (DN.de (dn_lc (own := [(("literal" : Str), 5)]) (t := (.one 5)) rfl sc.nd (di_seq (dr_var (pv 2))) (by kernel_rfl) (by decide) (fun _ _ _ _ _ => (pg_name (i := 5) sc.nd rfl (by first | exact Or.inl rfl | exact Or.inr rfl))) (fun _ _ _ _ _ => dts_nil) (fun _ _ _ _ _ => (de_chain opd_lt opd_le (DE.r de_int) (DE.r (de_callB cd_abs (by rfl) B.abs PyProof.Rows.boot_abs (da_cons (dr_var (pv 5)) da_nil))) (dr_fld (pv 0) ⟨TT.cl_Keeper, TT.n_Keeper_variables⟩) (by with_unfolding_all rfl)))))) da_nil))))) (dss_cons (ds_if (dt_w (dw_or (dt_not (dt_tru (dr_var (pv 4)) (fun _ => rfl))) (dw_or1 (dt_not (dt_tru (DE.r (de_callV (D_follows.pa pvs) hr (by decide) (takes_of rfl rfl rfl rfl) (by rfl) (da_cons (dr_fld (pv 0) ⟨TT.cl_Keeper, TT.n_Keeper_table⟩) (da_cons (dr_var (pv 2)) (da_cons (dr_var (pv 3)) da_nil))) (len_cons (len_cons (len_cons len_nil))))) (fun _ => rfl)))))) (dss_one (ds_raise_NotRight (XT.l_NotRight.choose_spec) rfl hr (takes_of rfl rfl rfl rfl) (dr_fld (pv 0) ⟨TT.cl_Keeper, TT.n_Keeper_taken⟩))) dss_nil) (dss_cons (ds_fset (pv 0) ⟨TT.cl_Keeper, TT.n_Keeper_top⟩ (de_var (pv 1))) (dss_cons (ds_fput hu1 (pv 0) ⟨TT.cl_Keeper, TT.n_Keeper_table⟩ (dr_var (pv 1)) (de_callT cd_tup (by rfl) B.tuple PyProof.Rows.boot_tuple (da_cons (dr_var (pv 2)) da_nil))) (dss_one (ds_if (dt_not (dt_tru (dr_var (pv 2)) (fun _ => rfl))) (dss_one (ds_fset (pv 0) ⟨TT.cl_Keeper, TT.n_Keeper_refuted⟩ de_bl)) dss_nil))))))
/-! ### Keeper_take -/
def b0_Keeper_take : List Sl → SO :=
  (mFPop 0 0 "table" (getV 2))
def s0_Keeper_take : List Sl → SO :=
  (mIfS (tNot1 (fun S => ((getFV 0 0 "refuted") S).bind trD)) (mIfS (fun S => ((m2 eqD (m2 ixD (getV 1) (cst (.int 0))) (cst (.str "drop"))) S).bind tBl) (mFor (.one 2) (mItems (m2 ixD (getV 1) (cst (.int 1)))) b0_Keeper_take) (mDropM (mMeth 0 0 "grow" f_Keeper_grow (aCons (m2 ixD (getV 1) (cst (.int 1))) (aCons (m2 ixD (getV 1) (cst (.int 2))) (aCons (m2 ixD (getV 1) (cst (.int 3))) aNil)))))) mSkip)
def s1_Keeper_take : List Sl → SO :=
  (mFSet 0 0 "taken" (m2 addD (getFV 0 0 "taken") (cst (.int 1))))
def m_Keeper_take : List Sl → SO :=
  (mSeq s0_Keeper_take s1_Keeper_take)
def f_Keeper_take : List Sl → RS := runM 3 2 m_Keeper_take
theorem sc_Keeper_take : FnScope ["self", "step", "number"] ["self", "step"] (defScope (inClass (top 21) 1)) := ⟨rfl, rfl, rfl, by decide +kernel, rfl, by decide +kernel, by decide +kernel⟩
theorem ok_Keeper_take {P : Program} {w : World} {K : PySem.W.Frag} {mg : Str → Option Value} {base : Heap} {C : CL} {f : Addr} {fd : FuncData} (F : Fun K "take" "Keeper.take" (inClass (top 21) 1) f fd) (hm : Meth K (C.cl 0) "take" f) (b : Binds K fd ["self", "step"] []) (B : Blt mg) (G : Cst mg) (XT : Xt K mg C) (TT : Tht K C) (D_Keeper_grow : MetM P w K mg base C 7 0 "grow" ["self", "number", "clause", "hints"] f_Keeper_grow) :
    MetM P w K mg base C 8 0 "take" ["self", "step"] f_Keeper_take := by
  unfold f_Keeper_take
  refine MetM.mk' (m := m_Keeper_take) rfl rfl F sc_Keeper_take hm b fun pvs cdv A outer s H E hr => ?_
  have hu65 : (A.deeper (envOfC "Keeper.take" (defScope (inClass (top 21) 1)) s.heap.objs.size f cdv)).units + 65 < cLine := by have := hr.un; omega
  have hu64 := Nat.lt_of_succ_lt hu65
  have hu1 : (A.deeper (envOfC "Keeper.take" (defScope (inClass (top 21) 1)) s.heap.objs.size f cdv)).units + 1 < cLine := by omega
  have sc := sc_Keeper_take
  exact (dss_cons (ds_if (dt_not (dt_tru (dr_fld (pv 0) ⟨TT.cl_Keeper, TT.n_Keeper_refuted⟩) (fun _ => rfl))) (dss_one (ds_if (dt_cmp (dc_op (opd_eq hu64) (DE.r (de_ix hu65 (dr_var (pv 1)) (DE.r de_int) (fun _ _ => rfl) (fun _ _ => rfl))) (DE.r de_str)) (by first | exact nobehind _ (by decide) (by decide) | rfl)) (dss_one (ds_for (t := (.one 2)) (passes_of rfl) rfl (dis_seq (de_ix hu65 (dr_var (pv 1)) (DE.r de_int) (fun _ _ => rfl) (fun _ _ => rfl))) (pg_name (i := 2) sc.nd rfl (by first | exact Or.inl rfl | exact Or.inr rfl)) (dss_one (ds_fpop (pv 0) ⟨TT.cl_Keeper, TT.n_Keeper_table⟩ (dr_var (pv 2)) ⟨rfl, rfl, rfl, rfl⟩)))) (dss_one (ds_dropM (dem_meth (D_Keeper_grow.pa pvs) TT.cl_Keeper hr (by decide) (takes_of rfl rfl rfl rfl) (pv 0) (dar_cons (de_ix hu65 (dr_var (pv 1)) (DE.r de_int) (fun _ _ => rfl) (fun _ _ => rfl)) (dar_cons (de_ix hu65 (dr_var (pv 1)) (DE.r de_int) (fun _ _ => rfl) (fun _ _ => rfl)) (dar_cons (de_ix hu65 (dr_var (pv 1)) (DE.r de_int) (fun _ _ => rfl) (fun _ _ => rfl)) dar_nil))) (lenM (len_cons (len_cons (len_cons len_nil))))))))) dss_nil) (dss_one (ds_fset (pv 0) ⟨TT.cl_Keeper, TT.n_Keeper_taken⟩ (de_bin opd_add (dr_fld (pv 0) ⟨TT.cl_Keeper, TT.n_Keeper_taken⟩) (DE.r de_int)))))
/-! ### checked -/
def s0_checked : List Sl → SO :=
  (mMk 3 0 f_Keeper___init__ (aCons (getF 0) (aCons (getF 1) aNil)))
def b0_checked : List Sl → SO :=
  (mDropM (mMeth 3 0 "take" f_Keeper_take (aCons (getF 4) aNil)))
def s1_checked : List Sl → SO :=
  (mFor (.one 4) (mItems (getF 2)) b0_checked)
def s2_checked : List Sl → SO :=
  (mRet (getFF 3 0 "refuted"))
def m_checked : List Sl → SO :=
  (mSeq s0_checked (mSeq s1_checked s2_checked))
def f_checked : List D → R D := runDef 5 3 m_checked
theorem sc_checked : FnScope ["variables", "clauses", "steps", "keeper", "step"] ["variables", "clauses", "steps"] (defScope (top 22)) := ⟨rfl, rfl, rfl, by decide +kernel, rfl, by decide +kernel, by decide +kernel⟩
theorem ok_checked {P : Program} {w : World} {K : PySem.W.Frag} {mg : Str → Option Value} {base : Heap} {C : CL} {f : Addr} {fd : FuncData} (F : Fun K "checked" "checked" (top 22) f fd) (hm : mg "checked" = some (.ref f)) (b : Binds K fd ["variables", "clauses", "steps"] []) (B : Blt mg) (G : Cst mg) (XT : Xt K mg C) (TT : Tht K C) (D_Keeper___init__ : MkM P w K mg base C 1 0 "Keeper" ["self", "variables", "clauses"] f_Keeper___init__) (D_Keeper_take : MetM P w K mg base C 8 0 "take" ["self", "step"] f_Keeper_take) :
    Def P w K mg base C 9 "checked" ["variables", "clauses", "steps"] f_checked := by
  unfold f_checked
  refine Def.mk' (m := m_checked) rfl rfl F sc_checked hm b fun cdv A outer s H E hr => ?_
  have hu65 : (A.deeper (envOfC "checked" (defScope (top 22)) s.heap.objs.size f cdv)).units + 65 < cLine := by have := hr.un; omega
  have hu64 := Nat.lt_of_succ_lt hu65
  have hu1 : (A.deeper (envOfC "checked" (defScope (top 22)) s.heap.objs.size f cdv)).units + 1 < cLine := by omega
  have sc := sc_checked
  exact (dss_cons (ds_mk D_Keeper___init__ sc.nd rfl (by first | exact Or.inl rfl | exact Or.inr rfl) hr (by decide) (by rfl) (dar_cons (de_var (pv 0)) (dar_cons (de_var (pv 1)) dar_nil)) (lenM (len_cons (len_cons len_nil)))) (dss_cons (ds_for (t := (.one 4)) (passes_of rfl) rfl (dis_seq (de_var (pv 2))) (pg_name (i := 4) sc.nd rfl (by first | exact Or.inl rfl | exact Or.inr rfl)) (dss_one (ds_dropM (dem_meth D_Keeper_take TT.cl_Keeper hr (by decide) (takes_of rfl rfl rfl rfl) (pv 3) (dar_cons (de_var (pv 4)) dar_nil) (lenM (len_cons len_nil)))))) (dss_one (ds_ret (de_fld (pv 3) ⟨TT.cl_Keeper, TT.n_Keeper_refuted⟩)))))
/-! ### _law_clause -/
def s0__law_clause : List Sl → SO :=
  (mSet 4 (fun S => ((aCons (getF 0) (aCons (getF 1) aNil)) S).bind f__law_mix))
def s1__law_clause : List Sl → SO :=
  (mSet 5 (m2 ixD (fun S => ((aLim (aCons (cst (.int 1)) (aCons (cst (.int 2)) (aCons (cst (.int 3)) (aCons (cst (.int 2)) (aCons (cst (.int 3)) (aCons (m2 modD (m2 fdivD (getV 4) (cst (.int 6))) (m2 addD (getV 3) (cst (.int 1)))) aNil))))))) S).bind fun ds => .ok (.lst ds)) (m2 modD (getV 4) (cst (.int 6)))))
def s2__law_clause : List Sl → SO :=
  (mSetN 6 (aLim aNil))
def i0__law_clause : List Sl → R (List D) :=
  (fun S => ((aCons (getV 5) aNil) S).bind rng1)
def b0__law_clause : List Sl → SO :=
  (mSeq (mSet 8 (fun S => ((aCons (getF 0) (aCons (m2 addD (m2 addD (getV 1) (cst (.int 1))) (getV 7)) aNil)) S).bind f__law_mix)) (mApp 6 (m2 mulD (m2 addD (cst (.int 1)) (m2 modD (m2 fdivD (getV 8) (cst (.int 2))) (getV 2))) (m2 subD (cst (.int 1)) (m2 mulD (cst (.int 2)) (m2 modD (getV 8) (cst (.int 2))))))))
def s3__law_clause : List Sl → SO :=
  (mFor (.one 7) i0__law_clause b0__law_clause)
def s4__law_clause : List Sl → SO :=
  (mRet (fun S => ((aCons (getV 6) aNil) S).bind (on1 tupD)))
def m__law_clause : List Sl → SO :=
  (mSeq s0__law_clause (mSeq s1__law_clause (mSeq s2__law_clause (mSeq s3__law_clause s4__law_clause))))
def f__law_clause : List D → R D := runDef 9 4 m__law_clause
theorem sc__law_clause : FnScope ["_law_script", "_law_base", "_law_variables", "_law_most", "_law_number", "_law_size", "_law_found", "_law_k", "_law_part"] ["_law_script", "_law_base", "_law_variables", "_law_most"] (defScope (top 28)) := ⟨rfl, rfl, rfl, by decide +kernel, rfl, by decide +kernel, by decide +kernel⟩
theorem ok__law_clause {P : Program} {w : World} {K : PySem.W.Frag} {mg : Str → Option Value} {base : Heap} {C : CL} {f : Addr} {fd : FuncData} (F : Fun K "_law_clause" "_law_clause" (top 28) f fd) (hm : mg "_law_clause" = some (.ref f)) (b : Binds K fd ["_law_script", "_law_base", "_law_variables", "_law_most"] []) (B : Blt mg) (G : Cst mg) (XT : Xt K mg C) (TT : Tht K C) (D__law_mix : Def P w K mg base C 2 "_law_mix" ["_law_script", "_law_k"] f__law_mix) :
    Def P w K mg base C 3 "_law_clause" ["_law_script", "_law_base", "_law_variables", "_law_most"] f__law_clause := by
  unfold f__law_clause
  refine Def.mk' (m := m__law_clause) rfl rfl F sc__law_clause hm b fun cdv A outer s H E hr => ?_
  have hu65 : (A.deeper (envOfC "_law_clause" (defScope (top 28)) s.heap.objs.size f cdv)).units + 65 < cLine := by have := hr.un; omega
  have hu64 := Nat.lt_of_succ_lt hu65
  have hu1 : (A.deeper (envOfC "_law_clause" (defScope (top 28)) s.heap.objs.size f cdv)).units + 1 < cLine := by omega
  have sc := sc__law_clause
  exact (dss_cons (ds_set (i := 4) sc.nd rfl (by first | exact Or.inl rfl | exact Or.inr rfl) (de_call D__law_mix hr (by decide) (takes_of rfl rfl rfl rfl) rfl (dar_cons (de_var (pv 0)) (dar_cons (de_var (pv 1)) dar_nil)) rfl (len_cons (len_cons len_nil)))) (dss_cons (ds_set (i := 5) sc.nd rfl (by first | exact Or.inl rfl | exact Or.inr rfl) (de_ix hu65 (DE.r (DN.de (dn_lst (dar_cons de_int (dar_cons de_int (dar_cons de_int (dar_cons de_int (dar_cons de_int (dar_cons (de_bin opd_mod (DE.r (de_bin opd_fdiv (dr_var (pv 4)) (DE.r de_int))) (DE.r (de_bin opd_add (dr_var (pv 3)) (DE.r de_int)))) dar_nil))))))))) (DE.r (de_bin opd_mod (dr_var (pv 4)) (DE.r de_int))) (fun _ _ => rfl) (fun _ _ => rfl))) (dss_cons (ds_setN (i := 6) sc.nd rfl (by first | exact Or.inl rfl | exact Or.inr rfl) (dn_lst dar_nil)) (dss_cons (ds_for (t := (.one 7)) (passes_of rfl) rfl (dis_range1 (by rfl) B.range (da_cons (dr_var (pv 5)) da_nil)) (pg_name (i := 7) sc.nd rfl (by first | exact Or.inl rfl | exact Or.inr rfl)) (dss_cons (ds_set (i := 8) sc.nd rfl (by first | exact Or.inl rfl | exact Or.inr rfl) (de_call D__law_mix hr (by decide) (takes_of rfl rfl rfl rfl) rfl (dar_cons (de_var (pv 0)) (dar_cons (de_bin opd_add (DE.r (de_bin opd_add (dr_var (pv 1)) (DE.r de_int))) (dr_var (pv 7))) dar_nil)) rfl (len_cons (len_cons len_nil)))) (dss_one (ds_app (pv 6) (de_bin opd_mul (DE.r (de_bin opd_add (DE.r de_int) (DE.r (de_bin opd_mod (DE.r (de_bin opd_fdiv (dr_var (pv 8)) (DE.r de_int))) (dr_var (pv 2)))))) (DE.r (de_bin opd_sub (DE.r de_int) (DE.r (de_bin opd_mul (DE.r de_int) (DE.r (de_bin opd_mod (dr_var (pv 8)) (DE.r de_int)))))))))))) (dss_one (ds_ret (de_callT cd_tup (by rfl) B.tuple PyProof.Rows.boot_tuple (da_cons (dr_var (pv 6)) da_nil))))))))
/-! ### law -/
def s0_law : List Sl → SO :=
  (mSet 1 (m2 modD (fun S => ((aCons (getF 0) (aCons (cst (.int 0)) aNil)) S).bind f__law_mix) (cst (.int 4))))
def s1_law : List Sl → SO :=
  (mSet 2 (cst .non))
def i0_law : List Sl → R (List D) :=
  (fun S => ((aCons (getV 6) aNil) S).bind rng1)
def e0_law : List Sl → R D :=
  (fun S => ((aCons (getF 0) (aCons (m2 addD (cst (.int 3)) (m2 mulD (cst (.int 5)) (getV 9))) (aCons (getF 5) (aCons (cst (.int 3)) aNil)))) S).bind f__law_clause)
def s2_law : List Sl → SO :=
  (mIfS (fun S => ((m2 eqD (getV 1) (cst (.int 0))) S).bind tBl) (mSeq (mSet 3 (m2 ixD (fun S => ((aLim (aCons (fun S => (aLim (aCons (cst (.int 3)) (aCons (cst (.int 2)) aNil)) S).bind fun ds => .ok (.tup ds)) (aCons (fun S => (aLim (aCons (cst (.int 2)) (aCons (cst (.int 1)) aNil)) S).bind fun ds => .ok (.tup ds)) (aCons (fun S => (aLim (aCons (cst (.int 4)) (aCons (cst (.int 2)) aNil)) S).bind fun ds => .ok (.tup ds)) aNil)))) S).bind fun ds => .ok (.lst ds)) (m2 modD (fun S => ((aCons (getF 0) (aCons (cst (.int 1)) aNil)) S).bind f__law_mix) (cst (.int 3))))) (mSeq (mSet 4 (fun S => ((aCons (m2 ixD (getV 3) (cst (.int 0))) (aCons (m2 ixD (getV 3) (cst (.int 1))) aNil)) S).bind f__law_places)) (mSet 2 (cst (.bl false))))) (mIfS (fun S => ((m2 eqD (getV 1) (cst (.int 1))) S).bind tBl) (mSeq (mSet 3 (m2 ixD (fun S => ((aLim (aCons (fun S => (aLim (aCons (cst (.int 2)) (aCons (cst (.int 2)) aNil)) S).bind fun ds => .ok (.tup ds)) (aCons (fun S => (aLim (aCons (cst (.int 1)) (aCons (cst (.int 1)) aNil)) S).bind fun ds => .ok (.tup ds)) (aCons (fun S => (aLim (aCons (cst (.int 2)) (aCons (cst (.int 3)) aNil)) S).bind fun ds => .ok (.tup ds)) aNil)))) S).bind fun ds => .ok (.lst ds)) (m2 modD (fun S => ((aCons (getF 0) (aCons (cst (.int 1)) aNil)) S).bind f__law_mix) (cst (.int 3))))) (mSeq (mSet 4 (fun S => ((aCons (m2 ixD (getV 3) (cst (.int 0))) (aCons (m2 ixD (getV 3) (cst (.int 1))) aNil)) S).bind f__law_places)) (mSet 2 (cst (.bl true))))) (mSeq (mSet 5 (m2 addD (cst (.int 5)) (m2 modD (fun S => ((aCons (getF 0) (aCons (cst (.int 1)) aNil)) S).bind f__law_mix) (cst (.int 2))))) (mSeq (mSet 6 (m2 modD (fun S => ((aCons (getF 0) (aCons (cst (.int 2)) aNil)) S).bind f__law_mix) (cst (.int 21)))) (mSet 4 (fun S => (aLim (aCons (getF 5) (aCons (fun S => ((mLc (.one 9) [9] i0_law mYes e0_law) S).bind fun ds => .ok (.lst ds)) aNil)) S).bind fun ds => .ok (.tup ds)))))))
def s3_law : List Sl → SO :=
  (mSet 7 (fun S => ((aCons (m2 ixD (getV 4) (cst (.int 0))) (aCons (fun S => ((fun S => ((aCons (m2 ixD (getV 4) (cst (.int 1))) aNil) S).bind (onN lstD)) S).bind fun ds => .ok (.lst ds)) aNil)) S).bind f_solved))
def s4_law : List Sl → SO :=
  (mIfS (fun S => ((m2 isD (m2 ixD (getV 7) (cst (.int 0))) (cst .non)) S).bind tBl) (mRet (mAnd2 (m2 isNotD (getV 2) (cst (.bl true))) (m2 isD (fun S => ((aCons (m2 ixD (getV 4) (cst (.int 0))) (aCons (m2 ixD (getV 4) (cst (.int 1))) (aCons (m2 ixD (getV 7) (cst (.int 1))) aNil))) S).bind f_checked) (cst (.bl true))))) mSkip)
def e1_law : List Sl → R D :=
  (fun S => ((aCons (getV 10) aNil) S).bind (on1 absD))
def s5_law : List Sl → SO :=
  (mSet 8 (fun S => ((mLc (.one 10) [10] (mItems (m2 ixD (getV 7) (cst (.int 0)))) mYes e1_law) S).bind fun ds => .ok (.lst ds)))
def s6_law : List Sl → SO :=
  (mIfS (tOr2 (fun S => ((m2 isD (getV 2) (cst (.bl false))) S).bind tBl) (fun S => ((m2 neD (fun S => ((fun S => ((aCons (getV 8) aNil) S).bind (onN sortedD)) S).bind fun ds => .ok (.lst ds)) (fun S => ((m2N lrg2 (cst (.int 1)) (m2 addD (m2 ixD (getV 4) (cst (.int 0))) (cst (.int 1)))) S).bind fun ds => .ok (.lst ds))) S).bind tBl)) (mRet (cst (.bl false))) mSkip)
def e2_law : List Sl → R D :=
  (m2 inD (getV 10) (m2 ixD (getV 7) (cst (.int 0))))
def e3_law : List Sl → R D :=
  (fun S => ((aCons (fun S => ((mLc (.one 10) [10] (mItems (getV 11)) mYes e2_law) S).bind fun ds => .ok (.lst ds)) aNil) S).bind (on1 anyD))
def s7_law : List Sl → SO :=
  (mRet (fun S => ((aCons (fun S => ((mLc (.one 11) [11] (mItems (m2 ixD (getV 4) (cst (.int 1)))) mYes e3_law) S).bind fun ds => .ok (.lst ds)) aNil) S).bind (on1 allD)))
def m_law : List Sl → SO :=
  (mSeq s0_law (mSeq s1_law (mSeq s2_law (mSeq s3_law (mSeq s4_law (mSeq s5_law (mSeq s6_law s7_law)))))))
def f_law : List D → R D := runDef 12 1 m_law
theorem sc_law : FnScope ["_law_script", "_law_way", "_law_due", "_law_pair", "_law_formula_here", "_law_variables", "_law_many", "_law_found", "_law_names", "_law_k", "_law_literal", "_law_clause_here"] ["_law_script"] (defScope (top 32)) := ⟨rfl, rfl, rfl, by decide +kernel, rfl, by decide +kernel, by decide +kernel⟩
theorem ok_law {P : Program} {w : World} {K : PySem.W.Frag} {mg : Str → Option Value} {base : Heap} {C : CL} {f : Addr} {fd : FuncData} (F : Fun K "law" "law" (top 32) f fd) (B : Blt mg) (G : Cst mg) (XT : Xt K mg C) (TT : Tht K C) (D__law_mix : Def P w K mg base C 2 "_law_mix" ["_law_script", "_law_k"] f__law_mix) (D__law_places : Def P w K mg base C 1 "_law_places" ["_law_things", "_law_places_here"] f__law_places) (D__law_clause : Def P w K mg base C 3 "_law_clause" ["_law_script", "_law_base", "_law_variables", "_law_most"] f__law_clause) (D_solved : Def P w K mg base C 35 "solved" ["variables", "clauses"] f_solved) (D_checked : Def P w K mg base C 9 "checked" ["variables", "clauses", "steps"] f_checked) :
    FnOk P w K mg base (L2.CX P w) 36 f fd ["_law_script"] (spD C K 1 f_law) := by
  unfold f_law
  refine Def.mkFn (m := m_law) rfl rfl F sc_law fun cdv A outer s H E hr => ?_
  have hu65 : (A.deeper (envOfC "law" (defScope (top 32)) s.heap.objs.size f cdv)).units + 65 < cLine := by have := hr.un; omega
  have hu64 := Nat.lt_of_succ_lt hu65
  have hu1 : (A.deeper (envOfC "law" (defScope (top 32)) s.heap.objs.size f cdv)).units + 1 < cLine := by omega
  have sc := sc_law
  exact (dss_cons (ds_set (i := 1) sc.nd rfl (by first | exact Or.inl rfl | exact Or.inr rfl) (de_bin opd_mod (DE.r (de_call D__law_mix hr (by decide) (takes_of rfl rfl rfl rfl) rfl (dar_cons (de_var (pv 0)) (dar_cons de_int dar_nil)) rfl (len_cons (len_cons len_nil)))) (DE.r de_int))) (dss_cons (ds_set (i := 2) sc.nd rfl (by first | exact Or.inl rfl | exact Or.inr rfl) de_non) (dss_cons (ds_if (dt_cmp (dc_op (opd_eq hu64) (dr_var (pv 1)) (DE.r de_int)) (by first | exact nobehind _ (by decide) (by decide) | rfl)) (dss_cons (ds_set (i := 3) sc.nd rfl (by first | exact Or.inl rfl | exact Or.inr rfl) (de_ix hu65 (DE.r (DN.de (dn_lst (dar_cons (de_tup (dar_cons de_int (dar_cons de_int dar_nil))) (dar_cons (de_tup (dar_cons de_int (dar_cons de_int dar_nil))) (dar_cons (de_tup (dar_cons de_int (dar_cons de_int dar_nil))) dar_nil)))))) (DE.r (de_bin opd_mod (DE.r (de_call D__law_mix hr (by decide) (takes_of rfl rfl rfl rfl) rfl (dar_cons (de_var (pv 0)) (dar_cons de_int dar_nil)) rfl (len_cons (len_cons len_nil)))) (DE.r de_int))) (fun _ _ => rfl) (fun _ _ => rfl))) (dss_cons (ds_set (i := 4) sc.nd rfl (by first | exact Or.inl rfl | exact Or.inr rfl) (de_call D__law_places hr (by decide) (takes_of rfl rfl rfl rfl) rfl (dar_cons (de_ix hu65 (dr_var (pv 3)) (DE.r de_int) (fun _ _ => rfl) (fun _ _ => rfl)) (dar_cons (de_ix hu65 (dr_var (pv 3)) (DE.r de_int) (fun _ _ => rfl) (fun _ _ => rfl)) dar_nil)) rfl (len_cons (len_cons len_nil)))) (dss_one (ds_set (i := 2) sc.nd rfl (by first | exact Or.inl rfl | exact Or.inr rfl) de_bl)))) (dss_one (ds_if (dt_cmp (dc_op (opd_eq hu64) (dr_var (pv 1)) (DE.r de_int)) (by first | exact nobehind _ (by decide) (by decide) | rfl)) (dss_cons (ds_set (i := 3) sc.nd rfl (by first | exact Or.inl rfl | exact Or.inr rfl) (de_ix hu65 (DE.r (DN.de (dn_lst (dar_cons (de_tup (dar_cons de_int (dar_cons de_int dar_nil))) (dar_cons (de_tup (dar_cons de_int (dar_cons de_int dar_nil))) (dar_cons (de_tup (dar_cons de_int (dar_cons de_int dar_nil))) dar_nil)))))) (DE.r (de_bin opd_mod (DE.r (de_call D__law_mix hr (by decide) (takes_of rfl rfl rfl rfl) rfl (dar_cons (de_var (pv 0)) (dar_cons de_int dar_nil)) rfl (len_cons (len_cons len_nil)))) (DE.r de_int))) (fun _ _ => rfl) (fun _ _ => rfl))) (dss_cons (ds_set (i := 4) sc.nd rfl (by first | exact Or.inl rfl | exact Or.inr rfl) (de_call D__law_places hr (by decide) (takes_of rfl rfl rfl rfl) rfl (dar_cons (de_ix hu65 (dr_var (pv 3)) (DE.r de_int) (fun _ _ => rfl) (fun _ _ => rfl)) (dar_cons (de_ix hu65 (dr_var (pv 3)) (DE.r de_int) (fun _ _ => rfl) (fun _ _ => rfl)) dar_nil)) rfl (len_cons (len_cons len_nil)))) (dss_one (ds_set (i := 2) sc.nd rfl (by first | exact Or.inl rfl | exact Or.inr rfl) de_bl)))) (dss_cons (ds_set (i := 5) sc.nd rfl (by first | exact Or.inl rfl | exact Or.inr rfl) (de_bin opd_add (DE.r de_int) (DE.r (de_bin opd_mod (DE.r (de_call D__law_mix hr (by decide) (takes_of rfl rfl rfl rfl) rfl (dar_cons (de_var (pv 0)) (dar_cons de_int dar_nil)) rfl (len_cons (len_cons len_nil)))) (DE.r de_int))))) (dss_cons (ds_set (i := 6) sc.nd rfl (by first | exact Or.inl rfl | exact Or.inr rfl) (de_bin opd_mod (DE.r (de_call D__law_mix hr (by decide) (takes_of rfl rfl rfl rfl) rfl (dar_cons (de_var (pv 0)) (dar_cons de_int dar_nil)) rfl (len_cons (len_cons len_nil)))) (DE.r de_int))) (dss_one (ds_set (i := 4) sc.nd rfl (by first | exact Or.inl rfl | exact Or.inr rfl) (de_tup (dar_cons (de_var (pv 5)) (dar_cons (DN.de (dn_lc (own := [(("_law_k" : Str), 9)]) (t := (.one 9)) rfl sc.nd (DIS.i (dis_range1 (by rfl) B.range (da_cons (dr_var (pv 6)) da_nil))) (by kernel_rfl) (by decide) (fun _ _ _ _ _ => (pg_name (i := 9) sc.nd rfl (by first | exact Or.inl rfl | exact Or.inr rfl))) (fun _ _ _ _ _ => dts_nil) (fun _ _ _ _ _ => (de_call D__law_clause hr (by decide) takes0 rfl (dar_cons (de_var (pv 0)) (dar_cons (de_bin opd_add (DE.r de_int) (DE.r (de_bin opd_mul (DE.r de_int) (dr_var (pv 9))))) (dar_cons (de_var (pv 5)) (dar_cons de_int dar_nil)))) rfl (len_cons (len_cons (len_cons (len_cons len_nil)))))))) dar_nil)))))))))) (dss_cons (ds_set (i := 7) sc.nd rfl (by first | exact Or.inl rfl | exact Or.inr rfl) (de_call D_solved hr (by decide) (takes_of rfl rfl rfl rfl) rfl (dar_cons (de_ix hu65 (dr_var (pv 4)) (DE.r de_int) (fun _ _ => rfl) (fun _ _ => rfl)) (dar_cons (DN.de (dn_callT cn_lst (by rfl) B.list PyProof.Rows.boot_list (da_cons (DE.r (de_ix hu65 (dr_var (pv 4)) (DE.r de_int) (fun _ _ => rfl) (fun _ _ => rfl))) da_nil))) dar_nil)) rfl (len_cons (len_cons len_nil)))) (dss_cons (ds_if (dt_cmp (dc_op opd_is (DE.r (de_ix hu65 (dr_var (pv 7)) (DE.r de_int) (fun _ _ => rfl) (fun _ _ => rfl))) (DE.r de_non)) (by first | exact nobehind _ (by decide) (by decide) | rfl)) (dss_one (ds_ret (de_and (de_cmp (dc_op opd_isNot (dr_var (pv 2)) (DE.r de_bl)) (by first | exact nobehind _ (by decide) (by decide) | rfl)) (de_one (de_cmp (dc_op opd_is (DE.r (de_call D_checked hr (by decide) (takes_of rfl rfl rfl rfl) rfl (dar_cons (de_ix hu65 (dr_var (pv 4)) (DE.r de_int) (fun _ _ => rfl) (fun _ _ => rfl)) (dar_cons (de_ix hu65 (dr_var (pv 4)) (DE.r de_int) (fun _ _ => rfl) (fun _ _ => rfl)) (dar_cons (de_ix hu65 (dr_var (pv 7)) (DE.r de_int) (fun _ _ => rfl) (fun _ _ => rfl)) dar_nil))) rfl (len_cons (len_cons (len_cons len_nil))))) (DE.r de_bl)) (by first | exact nobehind _ (by decide) (by decide) | rfl)))))) dss_nil) (dss_cons (ds_asg (ps_N_E (ps_lcN (i := 8) (own := [(("_law_literal" : Str), 10)]) (t := (.one 10)) rfl sc.nd rfl rfl (sw_true rfl rfl rfl (by decide +kernel)) (di_seq (DE.r (de_ix hu65 (dr_var (pv 7)) (DE.r de_int) (fun _ _ => rfl) (fun _ _ => rfl)))) (by kernel_rfl) (by decide) (fun _ _ _ _ _ => (pg_name (i := 10) sc.nd rfl (by first | exact Or.inl rfl | exact Or.inr rfl))) (fun _ _ _ _ _ => dts_nil) (fun _ _ _ _ _ => (de_callB cd_abs (by rfl) B.abs PyProof.Rows.boot_abs (da_cons (dr_var (pv 10)) da_nil)))))) (dss_cons (ds_if (dt_w (dw_or (dt_cmp (dc_op opd_is (dr_var (pv 2)) (DE.r de_bl)) (by first | exact nobehind _ (by decide) (by decide) | rfl)) (dw_or1 (dt_cmp (dc_op (opd_ne hu64) (DE.r (DN.de (dn_callB (cn_sorted rfl) (by rfl) B.sorted PyProof.Rows.boot_sorted (da_cons (dr_var (pv 8)) da_nil)))) (DE.r (DN.de (dn_listRg2 rfl (by rfl) B.list (by rfl) B.range (DE.r de_int) (DE.r (de_bin opd_add (DE.r (de_ix hu65 (dr_var (pv 4)) (DE.r de_int) (fun _ _ => rfl) (fun _ _ => rfl))) (DE.r de_int))))))) (by first | exact nobehind _ (by decide) (by decide) | rfl))))) (dss_one (ds_ret de_bl)) dss_nil) (dss_one (ds_ret (de_callB (cd_all rfl) (by rfl) B.all PyProof.Rows.boot_all (da_cons (DE.r (DN.de (dn_lc (own := [(("_law_clause_here" : Str), 11)]) (t := (.one 11)) rfl sc.nd (di_seq (DE.r (de_ix hu65 (dr_var (pv 4)) (DE.r de_int) (fun _ _ => rfl) (fun _ _ => rfl)))) (by kernel_rfl) (by decide) (fun _ _ _ _ _ => (pg_name (i := 11) sc.nd rfl (by first | exact Or.inl rfl | exact Or.inr rfl))) (fun _ _ _ _ _ => dts_nil) (fun _ _ _ _ _ => (de_callB (cd_any rfl) (by rfl) B.any PyProof.Rows.boot_any (da_cons (DE.r (DN.de (dn_lc (own := [(("_law_literal" : Str), 10)]) (t := (.one 10)) rfl sc.nd (di_seq (dr_var (pv 11))) (by kernel_rfl) (by decide) (fun _ _ _ _ _ => (pg_name (i := 10) sc.nd rfl (by first | exact Or.inl rfl | exact Or.inr rfl))) (fun _ _ _ _ _ => dts_nil) (fun _ _ _ _ _ => (de_cmp (dc_in hu65 (dr_var (pv 10)) (DE.r (de_ix hu65 (dr_var (pv 7)) (DE.r de_int) (fun _ _ => rfl) (fun _ _ => rfl)))) (by first | exact nobehind _ (by decide) (by decide) | rfl)))))) da_nil)))))) da_nil)))))))))))
end DL
/-! Clauses without doubles, coverings: no program in sight. -/
namespace DL
open PySem L2

/-! ### each literal once -/
def unlikeL (c : List Int) : List Int := c.foldl (fun a l => if l ∈ a then a else a ++ [l]) []
theorem unlikeL_snoc (c : List Int) (l : Int) : unlikeL (c ++ [l]) = if l ∈ unlikeL c then unlikeL c else unlikeL c ++ [l] := by
  unfold unlikeL; rw [List.foldl_append]; rfl
theorem snoc_ind {α : Type} {P : List α → Prop} (h0 : P []) (h1 : ∀ c l, P c → P (c ++ [l])) (c : List α) : P c := by
  have : ∀ c : List α, P c.reverse := by
    intro c
    induction c with
    | nil => exact h0
    | cons l c ih => rw [List.reverse_cons]; exact h1 _ _ ih
  have h := this c.reverse
  rwa [List.reverse_reverse] at h
theorem mem_unlikeL (c : List Int) : ∀ x, x ∈ unlikeL c ↔ x ∈ c := by
  refine snoc_ind (P := fun c => ∀ x, x ∈ unlikeL c ↔ x ∈ c) (fun x => Iff.rfl) (fun c l ih x => ?_) c
  rw [unlikeL_snoc]
  split
  · rename_i h
    rw [ih x, List.mem_append]
    constructor
    · exact .inl
    · rintro (h1 | h1)
      · exact h1
      · rw [List.mem_singleton] at h1; subst h1; exact (ih _).mp h
  · rw [List.mem_append, List.mem_append, ih x]
theorem nodup_unlikeL (c : List Int) : (unlikeL c).Nodup := by
  refine snoc_ind (P := fun c => (unlikeL c).Nodup) List.nodup_nil (fun c l ih => ?_) c
  rw [unlikeL_snoc]
  split
  · exact ih
  · rename_i h
    rw [List.nodup_append]
    refine ⟨ih, by simp, ?_⟩
    intro a ha b hb e
    rw [List.mem_singleton] at hb
    subst hb; subst e
    exact h ha
theorem len_unlikeL (c : List Int) : (unlikeL c).length ≤ c.length := by
  refine snoc_ind (P := fun c => (unlikeL c).length ≤ c.length) (Nat.le_refl _) (fun c l ih => ?_) c
  rw [unlikeL_snoc]
  split <;> simp <;> omega
theorem InR_unlikeL {v : Nat} {c : List Int} (h : InR v c) : InR v (unlikeL c) := fun l hl => h l ((mem_unlikeL c l).mp hl)
theorem ct_mono {σ : Asg} {a b : List Int} (h : ∀ l ∈ a, l ∈ b) (q : ct σ a = true) : ct σ b = true := by
  unfold ct at *
  rw [List.any_eq_true] at *
  obtain ⟨l, hl, e⟩ := q
  exact ⟨l, h l hl, e⟩
theorem ct_unlikeL (σ : Asg) (c : List Int) : ct σ (unlikeL c) = ct σ c := by
  rw [Bool.eq_iff_iff]
  exact ⟨ct_mono fun l h => (mem_unlikeL c l).mp h, ct_mono fun l h => (mem_unlikeL c l).mpr h⟩
/-! ### a literal and its opposite -/
def bothL (c : List Int) : Bool := c.any fun l => decide (-l ∈ c)
theorem lt_neg {σ : Asg} {l : Int} (h : l ≠ 0) : lt σ (-l) = !lt σ l := by
  unfold lt
  rw [Int.natAbs_neg]
  by_cases p : 0 < l
  · rw [if_pos p, if_neg (by omega)]
  · rw [if_neg p, if_pos (by omega), Bool.not_not]
theorem ct_both {v : Nat} {σ : Asg} {c : List Int} (hc : InR v c) (h : bothL c = true) : ct σ c = true := by
  unfold bothL at h
  rw [List.any_eq_true] at h
  obtain ⟨l, hl, e⟩ := h
  have e := of_decide_eq_true e
  have hz : l ≠ 0 := by have := (hc l hl).1; omega
  unfold ct
  rw [List.any_eq_true]
  cases q : lt σ l with
  | true => exact ⟨l, hl, q⟩
  | false => exact ⟨-l, e, by rw [lt_neg hz, q]; rfl⟩
/-! ### coverings -/
def cov (a b : List Int) : Bool := a.all fun l => decide (l ∈ b)
theorem cov_iff {a b : List Int} : cov a b = true ↔ ∀ l ∈ a, l ∈ b := by
  unfold cov
  rw [List.all_eq_true]
  exact ⟨fun h l hl => of_decide_eq_true (h l hl), fun h l hl => decide_eq_true (h l hl)⟩
theorem cov_refl (a : List Int) : cov a a = true := cov_iff.mpr fun _ h => h
theorem cov_trans {a b c : List Int} (h1 : cov a b = true) (h2 : cov b c = true) : cov a c = true := cov_iff.mpr fun l h => cov_iff.mp h2 l (cov_iff.mp h1 l h)
theorem len_sub : ∀ {a b : List Int}, a.Nodup → (∀ l ∈ a, l ∈ b) → a.length ≤ b.length
  | [], _, _, _ => Nat.zero_le _
  | x :: a, b, hn, h => by
    rw [List.nodup_cons] at hn
    have hx := h x (List.mem_cons_self ..)
    have := len_sub (a := a) (b := b.erase x) hn.2 fun l hl => (List.mem_erase_of_ne (fun z : l = x => hn.1 (z ▸ hl))).mpr (h l (List.mem_cons_of_mem _ hl))
    rw [List.length_erase_of_mem hx] at this
    have := List.length_pos_of_mem hx
    simp; omega
theorem sub_full {a b : List Int} (hn : a.Nodup) (h : ∀ l ∈ a, l ∈ b) (hl : b.length ≤ a.length) : ∀ l ∈ b, l ∈ a := by
  intro x hx
  by_cases c : x ∈ a
  · exact c
  · have := len_sub (a := a) (b := b.erase x) hn fun l hl => (List.mem_erase_of_ne (fun z : l = x => c (z ▸ hl))).mpr (h l hl)
    rw [List.length_erase_of_mem hx] at this
    have := List.length_pos_of_mem hx
    omega
theorem cov_len {a b : List Int} (hn : a.Nodup) (h : cov a b = true) : a.length ≤ b.length := len_sub hn (cov_iff.mp h)
/-! ### what is left when the covered go -/
def dueStep (s : List (List Int) × List (List Int)) (r : List Int) : List (List Int) × List (List Int) :=
  (s.1 ++ [r], s.2.filter (fun o => !(cov r o && decide (r.length < o.length))) ++ (if s.1.any (fun x => cov x r) = true then [] else [r]))
def dueR (rows : List (List Int)) : List (List Int) := (rows.foldl dueStep ([], [])).2
theorem dueR_snoc (pre : List (List Int)) (r : List Int) : dueR (pre ++ [r]) = (dueR pre).filter (fun o => !(cov r o && decide (r.length < o.length))) ++ (if pre.any (fun x => cov x r) = true then [] else [r]) := by
  have h : ∀ pre : List (List Int), (pre.foldl dueStep ([], [])).1 = pre := by
    intro pre
    refine snoc_ind (P := fun pre => (pre.foldl dueStep ([], [])).1 = pre) rfl (fun c l ih => ?_) pre
    rw [List.foldl_append]
    show (c.foldl dueStep ([], [])).1 ++ [l] = _
    rw [ih]
  unfold dueR
  rw [List.foldl_append]
  show (pre.foldl dueStep ([], [])).2.filter _ ++ (if (pre.foldl dueStep ([], [])).1.any _ = true then _ else _) = _
  rw [h pre]
theorem dueR_sub (rows : List (List Int)) : ∀ o ∈ dueR rows, o ∈ rows := by
  refine snoc_ind (P := fun rows => ∀ o ∈ dueR rows, o ∈ rows) (fun o h => h) (fun pre r ih o h => ?_) rows
  rw [dueR_snoc, List.mem_append] at h
  rw [List.mem_append]
  rcases h with h | h
  · exact .inl (ih o (List.mem_filter.mp h).1)
  · split at h
    · cases h
    · exact .inr h
theorem dueR_min (rows : List (List Int)) (hn : ∀ r ∈ rows, r.Nodup) : ∀ x ∈ rows, ∃ o ∈ dueR rows, cov o x = true := by
  revert hn
  refine snoc_ind (P := fun rows => (∀ r ∈ rows, r.Nodup) → ∀ x ∈ rows, ∃ o ∈ dueR rows, cov o x = true) (fun _ x h => by cases h) (fun pre r ih hn x hx => ?_) rows
  have hn' : ∀ r ∈ pre, r.Nodup := fun y hy => hn y (List.mem_append.mpr (.inl hy))
  have hr : r.Nodup := hn r (by simp)
  have ih := ih hn'
  rw [dueR_snoc]
  have keep : ∀ o ∈ dueR pre, cov o r = true → o ∈ (dueR pre).filter (fun o => !(cov r o && decide (r.length < o.length))) := by
    intro o ho h
    have h1 := cov_len (hn' o (dueR_sub pre o ho)) h
    refine List.mem_filter.mpr ⟨ho, ?_⟩
    rw [decide_eq_false (by omega)]
    simp
  rcases List.mem_append.mp hx with hx | hx
  · obtain ⟨o, ho, e⟩ := ih x hx
    by_cases c : (cov r o && decide (r.length < o.length)) = true
    · rw [Bool.and_eq_true] at c
      by_cases p : pre.any (fun x => cov x r) = true
      · obtain ⟨y, hy, ey⟩ := List.any_eq_true.mp p
        obtain ⟨o', ho', e'⟩ := ih y hy
        have e2 := cov_trans e' ey
        exact ⟨o', List.mem_append.mpr (.inl (keep o' ho' e2)), cov_trans e2 (cov_trans c.1 e)⟩
      · exact ⟨r, List.mem_append.mpr (.inr (by rw [if_neg p]; simp)), cov_trans c.1 e⟩
    · exact ⟨o, List.mem_append.mpr (.inl (List.mem_filter.mpr ⟨ho, by rw [Bool.not_eq_true']; exact Bool.eq_false_iff.mpr c⟩)), e⟩
  · rw [List.mem_singleton] at hx
    subst hx
    by_cases p : pre.any (fun y => cov y x) = true
    · obtain ⟨y, hy, ey⟩ := List.any_eq_true.mp p
      obtain ⟨o', ho', e'⟩ := ih y hy
      have e2 := cov_trans e' ey
      exact ⟨o', List.mem_append.mpr (.inl (keep o' ho' e2)), e2⟩
    · exact ⟨x, List.mem_append.mpr (.inr (by rw [if_neg p]; simp)), cov_refl x⟩
theorem dueR_good (rows : List (List Int)) : ∀ o ∈ dueR rows, ∀ x ∈ rows, ¬(cov x o = true ∧ x.length < o.length) := by
  refine snoc_ind (P := fun rows => ∀ o ∈ dueR rows, ∀ x ∈ rows, ¬(cov x o = true ∧ x.length < o.length)) (fun o h => by cases h) (fun pre r ih o ho x hx => ?_) rows
  rw [dueR_snoc] at ho
  rcases List.mem_append.mp ho with ho | ho
  · obtain ⟨ho, hf⟩ := List.mem_filter.mp ho
    rcases List.mem_append.mp hx with hx | hx
    · exact ih o ho x hx
    · rw [List.mem_singleton] at hx
      subst hx
      rintro ⟨h1, h2⟩
      rw [h1, decide_eq_true h2] at hf
      cases hf
  · split at ho
    · cases ho
    · rename_i p
      rw [List.mem_singleton] at ho
      subst ho
      rintro ⟨h1, h2⟩
      rcases List.mem_append.mp hx with hx | hx
      · exact p (List.any_eq_true.mpr ⟨x, hx, h1⟩)
      · rw [List.mem_singleton] at hx; subst hx; omega
def tidyR (rows : List (List Int)) : List (List Int) := rows.foldl (fun found r => if found.any (fun o => cov o r) = true then found else found.filter (fun o => !cov r o) ++ [r]) []
theorem tidyR_due (rows : List (List Int)) (hn : ∀ r ∈ rows, r.Nodup) : tidyR rows = dueR rows := by
  revert hn
  refine snoc_ind (P := fun rows => (∀ r ∈ rows, r.Nodup) → tidyR rows = dueR rows) (fun _ => rfl) (fun pre r ih hn => ?_) rows
  have hn' : ∀ r ∈ pre, r.Nodup := fun y hy => hn y (List.mem_append.mpr (.inl hy))
  have hr : r.Nodup := hn r (by simp)
  have e : tidyR (pre ++ [r]) = if (tidyR pre).any (fun o => cov o r) = true then tidyR pre else (tidyR pre).filter (fun o => !cov r o) ++ [r] := by
    unfold tidyR; rw [List.foldl_append]; rfl
  rw [e, ih hn', dueR_snoc]
  by_cases p : pre.any (fun x => cov x r) = true
  · obtain ⟨y, hy, ey⟩ := List.any_eq_true.mp p
    obtain ⟨o', ho', e'⟩ := dueR_min pre hn' y hy
    have e2 := cov_trans e' ey
    rw [if_pos (List.any_eq_true.mpr ⟨o', ho', e2⟩), if_pos p, List.append_nil]
    refine (List.filter_eq_self.mpr fun o ho => ?_).symm
    have := dueR_good pre o ho o' (dueR_sub pre o' ho')
    have l1 := cov_len (hn' o' (dueR_sub pre o' ho')) e2
    cases c : (cov r o && decide (r.length < o.length)) with
    | false => rfl
    | true =>
      rw [Bool.and_eq_true, decide_eq_true_iff] at c
      exact absurd ⟨cov_trans e2 c.1, by omega⟩ this
  · have q : ¬ (dueR pre).any (fun o => cov o r) = true := fun h => by
      obtain ⟨o, ho, eo⟩ := List.any_eq_true.mp h
      exact p (List.any_eq_true.mpr ⟨o, dueR_sub pre o ho, eo⟩)
    rw [if_neg q, if_neg p]
    congr 1
    refine List.filter_congr fun o ho => ?_
    cases c : cov r o with
    | false => rfl
    | true =>
      have : r.length < o.length := by
        by_cases h : r.length < o.length
        · exact h
        · have := sub_full hr (cov_iff.mp c) (by omega)
          exact absurd (show pre.any (fun x => cov x r) = true from List.any_eq_true.mpr ⟨o, dueR_sub pre o ho, cov_iff.mpr this⟩) p
      rw [decide_eq_true this]; rfl
theorem ft_dueR (σ : Asg) (rows : List (List Int)) (hn : ∀ r ∈ rows, r.Nodup) : ft σ (dueR rows) = ft σ rows := by
  unfold ft
  rw [Bool.eq_iff_iff, List.all_eq_true, List.all_eq_true]
  constructor
  · intro h x hx
    obtain ⟨o, ho, e⟩ := dueR_min rows hn x hx
    exact ct_mono (cov_iff.mp e) (h o ho)
  · intro h o ho
    exact h o (dueR_sub rows o ho)
/-- the rows: each literal once, none with its opposite -/
def rowsL (f : List (List Int)) : List (List Int) := (f.map unlikeL).filter fun c => !bothL c
theorem rowsL_nodup (f : List (List Int)) : ∀ r ∈ rowsL f, r.Nodup := by
  intro r hr
  obtain ⟨c, _, rfl⟩ := List.mem_map.mp (List.mem_filter.mp hr).1
  exact nodup_unlikeL c
theorem rowsL_in {v : Nat} {f : List (List Int)} (hf : ∀ c ∈ f, InR v c) : ∀ r ∈ rowsL f, InR v r := by
  intro r hr
  obtain ⟨c, hc, rfl⟩ := List.mem_map.mp (List.mem_filter.mp hr).1
  exact InR_unlikeL (hf c hc)
theorem ft_rowsL {v : Nat} (σ : Asg) {f : List (List Int)} (hf : ∀ c ∈ f, InR v c) : ft σ (rowsL f) = ft σ f := by
  unfold ft rowsL
  rw [Bool.eq_iff_iff, List.all_eq_true, List.all_eq_true]
  constructor
  · intro h c hc
    by_cases b : bothL (unlikeL c) = true
    · rw [← ct_unlikeL]; exact ct_both (InR_unlikeL (hf c hc)) b
    · rw [← ct_unlikeL]; exact h _ (List.mem_filter.mpr ⟨List.mem_map.mpr ⟨c, hc, rfl⟩, by simpa using b⟩)
  · intro h r hr
    obtain ⟨c, hc, rfl⟩ := List.mem_map.mp (List.mem_filter.mp hr).1
    rw [ct_unlikeL]; exact h c hc
def tidyL (f : List (List Int)) : List (List Int) := f.foldl (fun found c => if (!bothL (unlikeL c) && !(found.any fun o => cov o (unlikeL c))) = true then found.filter (fun o => !cov (unlikeL c) o) ++ [unlikeL c] else found) []
theorem tidyL_rows (f : List (List Int)) : tidyL f = tidyR (rowsL f) := by
  refine snoc_ind (P := fun f => tidyL f = tidyR (rowsL f)) rfl (fun f c ih => ?_) f
  have e1 : tidyL (f ++ [c]) = if (!bothL (unlikeL c) && !((tidyL f).any fun o => cov o (unlikeL c))) = true then (tidyL f).filter (fun o => !cov (unlikeL c) o) ++ [unlikeL c] else tidyL f := by
    unfold tidyL; rw [List.foldl_append]; rfl
  rw [e1, ih]
  unfold rowsL
  rw [List.map_append, List.filter_append]
  cases b : bothL (unlikeL c) with
  | true => simp [b]
  | false =>
    have : ([c].map unlikeL).filter (fun c => !bothL c) = [unlikeL c] := by simp [b]
    rw [this]
    conv => rhs; unfold tidyR; rw [List.foldl_append]
    show _ = if (tidyR (rowsL f)).any (fun o => cov o (unlikeL c)) = true then tidyR (rowsL f) else (tidyR (rowsL f)).filter (fun o => !cov (unlikeL c) o) ++ [unlikeL c]
    rw [show List.filter (fun c => !bothL c) (List.map unlikeL f) = rowsL f from rfl]
    cases (tidyR (rowsL f)).any (fun o => cov o (unlikeL c)) <;> simp
/-- the same by places -/
def goodI (rows : List (List Int)) (k : Nat) : Bool := (List.range rows.length).all fun j => !(cov (rows.getD j []) (rows.getD k []) && (decide ((rows.getD j []).length < (rows.getD k []).length) || decide (j < k)))
def dueI (rows : List (List Int)) : List (List Int) := ((List.range rows.length).filter (goodI rows)).map fun k => rows.getD k []
theorem getD_l {α : Type} {d : α} (xs : List α) (y : α) {k : Nat} (h : k < xs.length) : (xs ++ [y]).getD k d = xs.getD k d := by
  rw [List.getD_eq_getElem?_getD, List.getD_eq_getElem?_getD, List.getElem?_append_left h]
theorem getD_r {α : Type} {d : α} (xs : List α) (y : α) : (xs ++ [y]).getD xs.length d = y := by
  rw [List.getD_eq_getElem?_getD, List.getElem?_append_right (Nat.le_refl _), Nat.sub_self]; rfl
theorem map_getD {α : Type} {d : α} (xs : List α) : (List.range xs.length).map (fun k => xs.getD k d) = xs := by
  refine List.ext_getElem (by simp) fun i h1 h2 => ?_
  rw [List.getElem_map, List.getElem_range, List.getD_eq_getElem?_getD, List.getElem?_eq_getElem h2]
  rfl
theorem dueI_R (rows : List (List Int)) : dueI rows = dueR rows := by
  refine snoc_ind (P := fun rows => dueI rows = dueR rows) rfl (fun pre r ih => ?_) rows
  rw [dueR_snoc, ← ih]
  unfold dueI
  rw [List.length_append, show [r].length = 1 from rfl, List.range_succ, List.filter_append, List.map_append]
  congr 1
  · rw [List.filter_map, List.filter_filter]
    have e : ∀ k ∈ List.range pre.length, goodI (pre ++ [r]) k = (((fun o => !(cov r o && decide (r.length < o.length))) ∘ fun k => pre.getD k []) k && goodI pre k) := by
      intro k hk
      have hk := List.mem_range.mp hk
      unfold goodI
      rw [List.length_append, show [r].length = 1 from rfl, List.range_succ, List.all_append]
      rw [Bool.and_comm]
      congr 1
      · simp only [List.all_cons, List.all_nil, Bool.and_true, getD_r, getD_l pre r hk, Function.comp_def]
        rw [decide_eq_false (show ¬ pre.length < k by omega), Bool.or_false]
      · rw [Bool.eq_iff_iff, List.all_eq_true, List.all_eq_true]
        constructor
        · intro h j hj
          have := h j hj
          rw [getD_l pre r (List.mem_range.mp hj), getD_l pre r hk] at this
          exact this
        · intro h j hj
          rw [getD_l pre r (List.mem_range.mp hj), getD_l pre r hk]
          exact h j hj
    rw [List.filter_congr e]
    refine List.map_congr_left fun k hk => ?_
    exact getD_l pre r (List.mem_range.mp (List.mem_filter.mp hk).1)
  · have e : goodI (pre ++ [r]) pre.length = !(pre.any fun x => cov x r) := by
      unfold goodI
      rw [List.length_append, show [r].length = 1 from rfl, List.range_succ, List.all_append, getD_r]
      simp only [List.all_cons, List.all_nil, Bool.and_true, getD_r]
      rw [decide_eq_false (Nat.lt_irrefl _), decide_eq_false (Nat.lt_irrefl _), Bool.or_false, Bool.and_false, Bool.not_false, Bool.and_true, Bool.eq_iff_iff, List.all_eq_true]
      rw [Bool.not_eq_true', ← Bool.not_eq_true, List.any_eq_true]
      constructor
      · rintro h ⟨x, hx, ex⟩
        obtain ⟨j, hj, rfl⟩ := List.getElem_of_mem hx
        have := h j (List.mem_range.mpr hj)
        rw [getD_l pre r hj, List.getD_eq_getElem?_getD, List.getElem?_eq_getElem hj, decide_eq_true hj, Bool.or_true, Bool.and_true] at this
        simp only [Option.getD_some] at this
        rw [ex] at this
        cases this
      · intro h j hj
        have hj := List.mem_range.mp hj
        rw [getD_l pre r hj, List.getD_eq_getElem?_getD, List.getElem?_eq_getElem hj, decide_eq_true hj, Bool.or_true, Bool.and_true, Option.getD_some]
        cases c : cov pre[j] r with
        | false => rfl
        | true => exact absurd ⟨pre[j], List.getElem_mem _, c⟩ h
    simp only [List.filter_cons, List.filter_nil, e]
    cases pre.any (fun x => cov x r) with
    | true => rfl
    | false => simp [getD_r]
theorem models_ext {v : Nat} {f g : List (List Int)} (hf : ∀ c ∈ f, InR v c) (hg : ∀ c ∈ g, InR v c) (h : ∀ σ, ft σ f = ft σ g) : models v f = models v g := by
  unfold models
  refine List.filter_congr fun m hm => ?_
  obtain ⟨n, _, rfl⟩ := List.mem_map.mp hm
  have e : ∀ (f : List (List Int)), (∀ c ∈ f, InR v c) → (f.all fun c => c.any fun l => decide (l ∈ asg v (ofS v n))) = ft (ofS v n) f := by
    intro f hf
    unfold ft
    rw [Bool.eq_iff_iff, List.all_eq_true, List.all_eq_true]
    constructor
    · intro q d hd; rw [← any_asg (hf d hd)]; exact q d hd
    · intro q d hd; rw [any_asg (hf d hd)]; exact q d hd
  rw [e f hf, e g hg, h]
end DL
/-! Words that write numbers: no program in sight. -/
namespace DL
open PySem L2 PySem.NumText
open TL (numL tl_num numL_free numL_len numL_lt numL_step numL_ne numL_digits numL_val split_join)
theorem str_ext {a b : Str} : a = b ↔ a.cps.toList = b.cps.toList := by
  obtain ⟨⟨a⟩⟩ := a
  obtain ⟨⟨b⟩⟩ := b
  simp
theorem cutS_1 (w : Str) : (cutS w none (some 1)).cps.toList = w.cps.toList.take 1 := by
  have e : w.length = w.cps.toList.length := rfl
  unfold cutS
  rw [show HT.sIx w.length 0 none = 0 from rfl]
  have : HT.sIx w.length w.length (some 1) = min 1 w.length := rfl
  rw [this]
  simp only [List.drop_zero, Nat.sub_zero]
  rw [e]
  cases w.cps.toList <;> simp
theorem cutS_t (w : Str) : (cutS w (some 1) none).cps.toList = w.cps.toList.drop 1 := by
  have e : w.length = w.cps.toList.length := rfl
  unfold cutS
  rw [HT.sIx_none]
  have : HT.sIx w.length 0 (some 1) = min 1 w.length := rfl
  rw [this, e]
  cases w.cps.toList <;> simp
theorem dash_iff (w : Str) : cutS w none (some 1) = "-" ↔ w.cps.toList.head? = some 45 := by
  rw [str_ext, cutS_1]
  have : (("-" : Str)).cps.toList = [45] := by decide +kernel
  rw [this]
  cases w.cps.toList <;> simp
def dg (c : Nat) : Bool := decide (48 ≤ c ∧ c ≤ 57)
def ch (c : Nat) : D := .str ⟨#[c]⟩
theorem items_str {s : Str} (h : s.length ≤ sizeLine) : itemsD (.str s) = .ok (s.cps.toList.map ch) := by
  rfl
theorem mem_dg (c : Nat) : notInD (ch c) (.str "0123456789") = .ok (.bl (!dg c)) := by
  have e0 : (("0123456789" : Str)).cps.toList = [48, 49, 50, 51, 52, 53, 54, 55, 56, 57] := by decide +kernel
  unfold notInD ch inD
  have z : (⟨#[c]⟩ : Str).cps.toList = [c] := rfl
  simp only [z, e0, R.bind_ok, s_notD]
  congr 3
  unfold dg
  rw [decide_eq_decide]
  simp
  omega
def sumZ (acc : Int) (L : List Nat) : Int := L.foldl (fun a c => a * 10 + ((c - 48 : Nat) : Int)) acc
theorem sumZ_digits (L : List Nat) : sumZ 0 L = ((digitsVal L : Nat) : Int) := by
  have : ∀ (L : List Nat) (a : Nat), sumZ (a : Int) L = ((L.foldl (fun a c => a * 10 + (c - 48)) a : Nat) : Int) := by
    intro L
    induction L with
    | nil => intro a; rfl
    | cons c L ih => intro a; exact (ih (a * 10 + (c - 48)))
  exact this L 0
def fgS (w : Str) : Str := if w.cps.toList.head? = some 45 then cutS w (some 1) none else w
theorem fg_le {w : Str} (h : w.length ≤ sizeLine) : (fgS w).length ≤ sizeLine := by
  unfold fgS
  split
  · have : (cutS w (some 1) none).length = (cutS w (some 1) none).cps.toList.length := rfl
    rw [this, cutS_t]
    have e : w.length = w.cps.toList.length := rfl
    rw [List.length_drop, ← e]
    omega
  · exact h
def firstB (w : Str) : Bool := match (fgS w).cps.toList with
  | [] => false
  | c :: _ => decide ((⟨#[c]⟩ : Str) = "0")
/-- the number that a word is -/
def wordN (w : Str) : Option Int :=
  if 1 ≤ (fgS w).length ∧ (fgS w).length ≤ 9 then
    if (fgS w).cps.toList.all dg = true then
      if firstB w = true ∧ w ≠ "0" then none
      else some (if w.cps.toList.head? = some 45 then -sumZ 0 (fgS w).cps.toList else sumZ 0 (fgS w).cps.toList)
    else none
  else none
def optZ : Option Int → D
  | some i => .int i
  | none => .non
theorem ix_first {w : Str} (h : w.length ≤ sizeLine) (h1 : 1 ≤ (fgS w).length) : ((ixD (.str (fgS w)) (.int 0)).bind fun x => eqD x (.str "0")) = .ok (.bl (firstB w)) := by
  have hl := fg_le h
  unfold firstB
  have e : (fgS w).length = (fgS w).cps.toList.length := rfl
  unfold ixD
  simp only [hl, if_true]
  cases hc : (fgS w).cps.toList with
  | nil => rw [e, hc] at h1; simp at h1
  | cons c L =>
    rw [atI_lt (by decide) (by simp)]
    rfl
theorem eq_len {w : Str} : (fgS w).length = (fgS w).cps.toList.length := rfl
theorem int_word {w : Str} (n : 1 ≤ (fgS w).length ∧ (fgS w).length ≤ 9) (ha : (fgS w).cps.toList.all dg = true) : intD (.str w) = .ok (.int (if w.cps.toList.head? = some 45 then -sumZ 0 (fgS w).cps.toList else sumZ 0 (fgS w).cps.toList)) := by
  have hd : AllDigits (fgS w).cps.toList := fun c hc => by
    have := List.all_eq_true.mp ha c hc
    exact of_decide_eq_true this
  have hne : (fgS w).cps.toList ≠ [] := fun z => by
    have := n.1
    rw [eq_len, z] at this
    simp at this
  have e : w.length = w.cps.toList.length := rfl
  by_cases c : w.cps.toList.head? = some 45
  · rw [if_pos c]
    have ef : (fgS w).cps.toList = w.cps.toList.drop 1 := by unfold fgS; rw [if_pos c, cutS_t]
    have hw : w.cps.toList = 45 :: (fgS w).cps.toList := by
      rw [ef]
      cases hx : w.cps.toList with
      | nil => rw [hx] at c; cases c
      | cons a L => rw [hx] at c; simp at c; rw [c]; rfl
    have hlen : w.length ≤ 10 := by rw [e, hw, List.length_cons, ← eq_len]; omega
    have := intText_neg hw hd hne (by omega)
    simp only [intD, this]
    rw [if_pos (by omega), sumZ_digits]
  · rw [if_neg c]
    have ef : fgS w = w := by unfold fgS; rw [if_neg c]
    rw [ef] at hd hne n ⊢
    have := intText_digits hd hne (by omega)
    simp only [intD, this]
    rw [if_pos (by omega), sumZ_digits]
/-! ### the word of a number -/
def numS (i : Int) : Str := toString i
theorem numS_pos (n : Nat) : (numS (n : Int)).cps.toList = numL n := tl_num n
theorem numS_neg (n : Nat) (h : 1 ≤ n) : (numS (-(n : Int))).cps.toList = 45 :: numL n := by
  obtain ⟨m, rfl⟩ : ∃ m, n = m + 1 := ⟨n - 1, by omega⟩
  show (Str.ofString (toString (Int.negSucc m))).cps.toList = _
  rw [PyProof.Rows.signs_ofString]
  show ("-" ++ Nat.repr (m + 1)).toList.map Char.toNat = _
  rw [String.toList_append, List.map_append]
  have : (Nat.repr (m + 1)).toList.map Char.toNat = numL (m + 1) := by
    unfold numL
    rw [Nat.toList_repr]
  rw [this]
  rfl
theorem numS_free {i : Int} {s : Nat} (h : s < 45 ∨ 57 < s) : s ∉ (numS i).cps.toList := by
  by_cases c : 0 ≤ i
  · obtain ⟨n, rfl⟩ := Int.eq_ofNat_of_zero_le c
    rw [numS_pos]
    exact numL_free (by omega)
  · obtain ⟨n, rfl⟩ : ∃ n : Nat, i = -(n : Int) := ⟨i.natAbs, by omega⟩
    rw [numS_neg n (by omega), List.mem_cons]
    intro z
    rcases z with z | z
    · omega
    · exact numL_free (by omega) z
theorem numS_len {i : Int} (h : i.natAbs < 10 ^ 13) : (numS i).length ≤ 14 := by
  have e : (numS i).length = (numS i).cps.toList.length := rfl
  rw [e]
  by_cases c : 0 ≤ i
  · obtain ⟨n, rfl⟩ := Int.eq_ofNat_of_zero_le c
    rw [numS_pos]
    have := numL_len (n := n) (k := 13) (by decide) (by omega)
    omega
  · obtain ⟨n, rfl⟩ : ∃ n : Nat, i = -(n : Int) := ⟨i.natAbs, by omega⟩
    rw [numS_neg n (by omega), List.length_cons]
    have := numL_len (n := n) (k := 13) (by decide) (by omega)
    omega
theorem numL_head0 : ∀ n : Nat, (numL n).head? = some 48 → n = 0 := by
  intro n
  induction n using Nat.strongRecOn with
  | _ n ih =>
    intro h
    by_cases c : n < 10
    · rw [numL_lt c] at h
      simp at h; omega
    · rw [numL_step (by omega)] at h
      have hne := numL_ne (n / 10)
      have h : (numL (n / 10)).head? = some 48 := by
        cases hx : numL (n / 10) with
        | nil => exact absurd hx hne
        | cons a L => rw [hx] at h; exact h
      have := ih (n / 10) (by omega) h
      omega
theorem dg_all (n : Nat) : (numL n).all dg = true := by
  rw [List.all_eq_true]
  intro c hc
  have := numL_digits n c hc
  exact decide_eq_true this
theorem one48 (c : Nat) (h : (⟨#[c]⟩ : Str) = "0") : c = 48 := by
  have := str_ext.mp h
  have e0 : (("0" : Str)).cps.toList = [48] := by decide +kernel
  rw [e0] at this
  have z : (⟨#[c]⟩ : Str).cps.toList = [c] := rfl
  rw [z] at this
  simpa using this
theorem numS_zero : numS 0 = "0" := by decide +kernel
theorem firstB_num {w : Str} {n : Nat} (h : (fgS w).cps.toList = numL n) (hb : firstB w = true) : n = 0 := by
  unfold firstB at hb
  rw [h] at hb
  cases hc : numL n with
  | nil => exact absurd hc (numL_ne n)
  | cons c L =>
    rw [hc] at hb
    have := one48 c (of_decide_eq_true hb)
    subst this
    exact numL_head0 n (by rw [hc]; rfl)
theorem wordN_num {i : Int} (h : i.natAbs < 10 ^ 9) : wordN (numS i) = some i := by
  unfold wordN
  by_cases c : 0 ≤ i
  · obtain ⟨n, rfl⟩ := Int.eq_ofNat_of_zero_le c
    have hh : (numS (n : Int)).cps.toList.head? ≠ some 45 := by
      rw [numS_pos]
      intro z
      have := List.mem_of_mem_head? z
      exact numL_free (by omega) this
    have hf : fgS (numS (n : Int)) = numS (n : Int) := by unfold fgS; rw [if_neg hh]
    have hl := numL_len (n := n) (k := 9) (by decide) (by omega)
    have hl1 : 1 ≤ (numL n).length := List.length_pos_iff.mpr (numL_ne n)
    have hh2 : (numL n).head? ≠ some 45 := by rw [← numS_pos]; exact hh
    rw [eq_len, hf, numS_pos, if_pos ⟨hl1, hl⟩, if_pos (dg_all n), if_neg hh2, sumZ_digits, numL_val]
    rw [if_neg]
    intro z
    have := firstB_num (n := n) (by rw [hf, numS_pos]) z.1
    subst this
    exact z.2 numS_zero
  · obtain ⟨n, rfl⟩ : ∃ n : Nat, i = -(n : Int) := ⟨i.natAbs, by omega⟩
    have hn : 1 ≤ n := by omega
    have hh : (numS (-(n : Int))).cps.toList.head? = some 45 := by rw [numS_neg n hn]; rfl
    have hf : (fgS (numS (-(n : Int)))).cps.toList = numL n := by
      unfold fgS
      rw [if_pos hh, cutS_t, numS_neg n hn]; rfl
    have hl := numL_len (n := n) (k := 9) (by decide) (by omega)
    have hl1 : 1 ≤ (numL n).length := List.length_pos_iff.mpr (numL_ne n)
    rw [eq_len, hf, if_pos ⟨hl1, hl⟩, if_pos (dg_all n), if_pos hh, sumZ_digits, numL_val]
    rw [if_neg]
    intro z
    have := firstB_num hf z.1
    omega
theorem log_small {n : Int} (h : n.natAbs < 10 ^ 13) : n.natAbs.log2 < 1920 := by
  by_cases z : n.natAbs = 0
  · rw [z]; decide
  · refine (Nat.log2_lt z).2 (Nat.lt_of_lt_of_le h ?_)
    exact Nat.le_trans (by decide : 10 ^ 13 ≤ 2 ^ 44) (Nat.pow_le_pow_right (by decide) (by decide))
theorem strI {i : Int} (h : i.natAbs < 10 ^ 13) : strD (.int i) = .ok (.str (numS i)) := if_pos (log_small h)
/-! ### many words -/
def wsD (ws : List Str) : D := .lst (ws.map D.str)
theorem strs_D : ∀ ws : List Str, strsD (ws.map D.str) = some ws
  | [] => rfl
  | w :: ws => by rw [List.map_cons, strsD, strs_D ws]; rfl
theorem joinW {s : Str} {ws : List Str} (h : (ws.map (·.length)).sum + ws.length * s.length ≤ 16777216) : joinD (.str s) (wsD ws) = .ok (.str (Txt.join s ws)) := by
  unfold joinD wsD
  simp only [strs_D]
  rw [if_pos h]
theorem splitW {s z : Str} (h : (z.length == 0) = false) (h2 : s.length + 2 ≤ sizeLine) : splitD (.str s) (.str z) = .ok ((Txt.split s z).map D.str) := if_pos ⟨h, h2⟩
/-- all the numbers of words, or none -/
def numsW (ws : List Str) : Option (List Int) := ws.foldr (fun w r => match wordN w, r with | some i, some l => some (i :: l) | _, _ => none) (some [])
theorem numsW_cons (w : Str) (ws : List Str) : numsW (w :: ws) = match wordN w, numsW ws with | some i, some l => some (i :: l) | _, _ => none := rfl
theorem numsW_some : ∀ {ws : List Str} {l : List Int}, numsW ws = some l → ws.map wordN = l.map some
  | [], l, h => by cases h; rfl
  | w :: ws, l, h => by
    rw [numsW_cons] at h
    cases h1 : wordN w with
    | none => rw [h1] at h; cases h
    | some i =>
      cases h2 : numsW ws with
      | none => rw [h1, h2] at h; cases h
      | some r =>
        rw [h1, h2] at h; cases h
        rw [List.map_cons, List.map_cons, h1, numsW_some h2]
theorem numsW_of : ∀ {ws : List Str} {l : List Int}, ws.map wordN = l.map some → numsW ws = some l
  | [], [], h => rfl
  | [], _ :: _, h => by cases h
  | w :: ws, [], h => by cases h
  | w :: ws, i :: l, h => by
    rw [List.map_cons, List.map_cons, List.cons.injEq] at h
    rw [numsW_cons, h.1, numsW_of h.2]
theorem numsW_none : ∀ {ws : List Str}, numsW ws = none → ∃ w ∈ ws, wordN w = none
  | [], h => by cases h
  | w :: ws, h => by
    rw [numsW_cons] at h
    cases h1 : wordN w with
    | none => exact ⟨w, List.mem_cons_self .., h1⟩
    | some i =>
      cases h2 : numsW ws with
      | none => obtain ⟨v, hv, e⟩ := numsW_none h2; exact ⟨v, List.mem_cons_of_mem _ hv, e⟩
      | some r => rw [h1, h2] at h; cases h
theorem numsW_num {l : List Int} (h : ∀ i ∈ l, i.natAbs < 10 ^ 9) : numsW (l.map numS) = some l := by
  refine numsW_of ?_
  rw [List.map_map]
  exact List.map_congr_left fun i hi => wordN_num (h i hi)
theorem optZ_in {xs : List (Option Int)} : inD .non (.lst (xs.map optZ)) = .ok (.bl (decide (none ∈ xs))) := by
  have hf : (xs.map optZ).all flatD = true := by
    rw [List.all_eq_true]
    intro d hd
    obtain ⟨x, _, rfl⟩ := List.mem_map.mp hd
    cases x <;> rfl
  show inSeq .non (xs.map optZ) true = _
  unfold inSeq
  rw [if_pos (by rw [hf]; rfl)]
  congr 2
  rw [List.any_map, Bool.eq_iff_iff, List.any_eq_true, decide_eq_true_iff]
  constructor
  · rintro ⟨x, hx, e⟩
    cases x with
    | none => exact hx
    | some i => cases e
  · intro h; exact ⟨none, h, rfl⟩
theorem none_in {ws : List Str} : (none ∈ ws.map wordN) ↔ numsW ws = none := by
  constructor
  · intro h
    obtain ⟨w, hw, e⟩ := List.mem_map.mp h
    cases h2 : numsW ws with
    | none => rfl
    | some l =>
      exfalso
      have := numsW_some h2
      have h3 : wordN w ∈ l.map some := by rw [← this]; exact List.mem_map.mpr ⟨w, hw, rfl⟩
      rw [e] at h3
      obtain ⟨i, _, e2⟩ := List.mem_map.mp h3
      cases e2
  · intro h
    obtain ⟨w, hw, e⟩ := numsW_none h
    exact List.mem_map.mpr ⟨w, hw, e⟩
end DL
/-! Slices, ends; more evaluation. -/
namespace DL
open PySem L2
theorem sIx_m1 (n d : Nat) : HT.sIx n d (some (-1)) = n - 1 := by
  have : HT.sIx n d (some (-1)) = if (-1 : Int) < 0 then (-1 + (n : Int)).toNat else min (-1 : Int).toNat n := rfl
  rw [this, if_pos (by decide)]
  omega
theorem cutL_init {α : Type} (xs : List α) : cutL xs none (some (-1)) = xs.dropLast := by
  unfold cutL
  rw [HT.sIx_none, sIx_m1, List.drop_zero, List.dropLast_eq_take, Nat.sub_zero]
theorem cutL_from {α : Type} (xs : List α) (k : Nat) : cutL xs (some (k : Int)) none = xs.drop k := by
  unfold cutL
  rw [HT.sIx_nat, HT.sIx_none]
  by_cases h : k ≤ xs.length
  · rw [Nat.min_eq_left h, List.take_of_length_le (by simp)]
  · rw [Nat.min_eq_right (by omega), List.drop_eq_nil_of_le (Nat.le_refl _), List.drop_eq_nil_of_le (by omega)]; simp
theorem cutL_one {α : Type} (xs : List α) : cutL xs (some 1) none = xs.drop 1 := cutL_from xs 1
theorem cutL_mid {α : Type} (xs : List α) (k : Nat) : cutL xs (some (k : Int)) (some (-1)) = (xs.drop k).dropLast := by
  unfold cutL
  rw [HT.sIx_nat, sIx_m1, List.dropLast_eq_take, List.length_drop]
  by_cases h : k ≤ xs.length
  · rw [Nat.min_eq_left h]
    congr 1; omega
  · rw [Nat.min_eq_right (by omega), List.drop_eq_nil_of_le (Nat.le_refl _), List.drop_eq_nil_of_le (by omega)]; simp
theorem cutL_mid1 {α : Type} (xs : List α) : cutL xs (some 1) (some (-1)) = (xs.drop 1).dropLast := cutL_mid xs 1
theorem cutL_upto {α : Type} (xs : List α) (m : Nat) : cutL xs none (some (m : Int)) = xs.take m := by
  unfold cutL
  rw [HT.sIx_none, HT.sIx_nat]
  simp only [List.drop_zero, Nat.sub_zero]
  by_cases h : m ≤ xs.length
  · rw [Nat.min_eq_left h]
  · rw [Nat.min_eq_right (by omega), List.take_of_length_le (Nat.le_refl _), List.take_of_length_le (by omega)]
theorem cutL_map {α β : Type} (f : α → β) (xs : List α) (lo hi : Option Int) : cutL (xs.map f) lo hi = (cutL xs lo hi).map f := by
  unfold cutL
  rw [List.length_map, List.map_take, List.map_drop]
theorem atI_last {α : Type} {xs : List α} : atI xs (-1) = xs.getLast? := by
  by_cases h : xs = []
  · subst h; rfl
  · have hl : 1 ≤ xs.length := List.length_pos_iff.mpr h
    rw [atI_neg (by decide) (by omega), List.getLast?_eq_getElem?, List.getElem?_eq_getElem (by omega)]
    congr 1
    congr 1
    omega
theorem atI_zero {α : Type} {xs : List α} : atI xs 0 = xs.head? := by
  cases xs with
  | nil => rfl
  | cons a b => rw [atI_lt (by decide) (by simp only [List.length_cons]; omega)]; rfl
@[simp] theorem s_slL (l h : Option Int) (ds : List D) : slD l h (.lst ds) = .ok (.lst (cutL ds l h)) := id rfl
@[simp] theorem s_slT (l h : Option Int) (ds : List D) : slD l h (.tup ds) = .ok (.tup (cutL ds l h)) := id rfl
@[simp] theorem s_mRaise (e : Exn) (S : List Sl) : mRaise e S = .ex e S := id rfl
theorem seq_ex {a b : List Sl → SO} {S S1 : List Sl} {e : Exn} (h : a S = .ex e S1) : mSeq a b S = .ex e S1 := by rw [s_mSeq, h]
theorem run_ex {n np : Nat} {m : List Sl → SO} {ds : List D} {e : Exn} {S : List Sl} (h : m (ds.map Sl.fz ++ List.replicate (n - np) Sl.un) = .ex e S) : runDef n np m ds = .exc e := by unfold runDef; rw [h]
/-- numbers in numbers -/
theorem in_ints (l : Int) (m : List Int) : inD (.int l) (.lst (m.map D.int)) = .ok (.bl (decide (l ∈ m))) := in_lst l m
theorem notin_ints (l : Int) (m : List Int) : notInD (.int l) (.lst (m.map D.int)) = .ok (.bl (!decide (l ∈ m))) := by unfold notInD; rw [in_lst]; rfl
theorem ints_of : ∀ l : List Int, intsD (l.map D.int) = some l
  | [] => rfl
  | i :: l => by rw [List.map_cons, intsD, ints_of l]; rfl
theorem idxL_ex {k : Int} : ∀ {l : List Int}, k ∈ l → ∃ j, idxL k l = some j ∧ j < l.length
  | [], h => by cases h
  | x :: l, h => by
    unfold idxL
    by_cases c : x = k
    · rw [if_pos c]; exact ⟨0, rfl, by simp⟩
    · rw [if_neg c]
      rcases List.mem_cons.mp h with e | h
      · exact absurd e.symm c
      · obtain ⟨j, e, hj⟩ := idxL_ex h
        exact ⟨j + 1, by rw [e]; rfl, by simpa using hj⟩
theorem idxD_ints {k : Int} {l : List Int} {j : Nat} (h : idxL k l = some j) : idxD (.lst (l.map D.int)) (.int k) = .ok (.int j) := by
  unfold idxD
  simp only [ints_of, h]
theorem idxL_app {k : Int} {a b : List Int} (h : k ∉ a) : idxL k (a ++ k :: b) = some a.length := by
  induction a with
  | nil => simp [idxL]
  | cons x a ih =>
    rw [List.mem_cons, not_or] at h
    show (if x = k then some 0 else (idxL k (a ++ k :: b)).map (· + 1)) = _
    rw [if_neg (fun e => h.1 e.symm), ih h.2]
    rfl
theorem lim2 (a b : D) : lim [a, b] = .ok [a, b] := limS (by simp)
theorem lim1 (a : D) : lim [a] = .ok [a] := limS (by simp)
theorem lim00 : lim [] = .ok [] := limS (by simp)
theorem lim4 (a b c d : D) : lim [a, b, c, d] = .ok [a, b, c, d] := limS (by simp)
theorem try_nx {i : Nat} {q : Exn → Bool} {mb ms : List Sl → SO} {S S' : List Sl} (h : mb S = .nx S') : mTry i q mb ms S = .nx S' := by unfold mTry; rw [h]
theorem try_ex {i : Nat} {q : Exn → Bool} {mb ms : List Sl → SO} {S S' S2 S3 : List Sl} {e : Exn} (h : mb S = .ex e S') (hq : q e = true) (hx : noXn S' = true) (hm : ms (S'.set i (.xn e)) = .nx S2) (h2 : noXn (S2.set i .un) = true) (h3 : S2.set i .un = S3) : mTry i q mb ms S = .nx S3 := by
  unfold mTry
  rw [h]
  rw [h3] at h2
  simp only [hq, hx, Bool.and_self, if_true, hm, h3, h2]
end DL
/-! Equal data are equal. -/
namespace DL
open PySem L2
theorem eqv_self {d : D} (h : okPy d = true) : eqvD d d = true := SeqAt.eqv_refl _ (lay_of h)
theorem eq_self_tup {ds : List D} (h : okPy (.tup ds) = true) : eqD (.tup ds) (.tup ds) = .ok (.bl true) := by
  show (if (okPy (.tup ds) && okPy (.tup ds)) = true then R.ok (D.bl (eqvD (.tup ds) (.tup ds))) else .bad) = _
  rw [h, if_pos (show (true && true) = true from rfl), eqv_self h]
/-- how deep, and of the right kinds -/
def okN (n : Nat) (d : D) : Prop := (toPy d).canLay0 = true ∧ PyData.depth (toPy d) ≤ n
def okA (n : Nat) (ds : List D) : Prop := PyData.canLayAll0 (toPyA ds) = true ∧ PyData.depthAll (toPyA ds) ≤ n
theorem okN.py {n : Nat} {d : D} (h : okN n d) (hn : n ≤ 64) : okPy d = true := by
  show ((toPy d).canLay0 && decide (PyData.depth (toPy d) ≤ 64)) = true
  rw [h.1, decide_eq_true (Nat.le_trans h.2 hn)]; rfl
theorem okA_nil (n : Nat) : okA n [] := ⟨rfl, Nat.zero_le _⟩
theorem okA_cons {n : Nat} {d : D} {ds : List D} (h : okN n d) (g : okA n ds) : okA n (d :: ds) := by
  constructor
  · show ((toPy d).canLay0 && PyData.canLayAll0 (toPyA ds)) = true
    rw [h.1, g.1]; rfl
  · show max (PyData.depth (toPy d)) (PyData.depthAll (toPyA ds)) ≤ n
    exact Nat.max_le.mpr ⟨h.2, g.2⟩
theorem okN_tup {n : Nat} {ds : List D} (g : okA n ds) : okN (n + 1) (.tup ds) := by
  constructor
  · show (PyData.tuple (toPyA ds)).canLay0 = true
    simp only [PyData.canLay0]; exact g.1
  · show PyData.depth (PyData.tuple (toPyA ds)) ≤ n + 1
    simp only [PyData.depth]; have := g.2; omega
theorem okN_lst {n : Nat} {ds : List D} (g : okA n ds) : okN (n + 1) (.lst ds) := by
  constructor
  · show (PyData.list (toPyA ds)).canLay0 = true
    simp only [PyData.canLay0]; exact g.1
  · show PyData.depth (PyData.list (toPyA ds)) ≤ n + 1
    simp only [PyData.depth]; have := g.2; omega
theorem okN_int (n : Nat) (i : Int) : okN n (.int i) := ⟨by simp only [toPy, PyData.canLay0], by simp only [toPy, PyData.depth]; omega⟩
theorem okN_bl (n : Nat) (i : Bool) : okN n (.bl i) := ⟨by simp only [toPy, PyData.canLay0], by simp only [toPy, PyData.depth]; omega⟩
theorem okN_non (n : Nat) : okN n .non := ⟨by simp only [toPy, PyData.canLay0], by simp only [toPy, PyData.depth]; omega⟩
theorem okN_str (n : Nat) {s : Str} (h : PyData.strOk s = true) : okN n (.str s) := ⟨by simp only [toPy, PyData.canLay0]; exact h, by simp only [toPy, PyData.depth]; omega⟩
theorem okA_ints (n : Nat) : ∀ l : List Int, okA n (l.map D.int)
  | [] => okA_nil n
  | i :: l => okA_cons (okN_int n i) (okA_ints n l)
theorem okN_cD (n : Nat) (c : List Int) : okN (n + 1) (cD c) := okN_tup (okA_ints n c)
theorem okA_cls (n : Nat) : ∀ f : List (List Int), okA (n + 1) (f.map cD)
  | [] => okA_nil _
  | c :: f => okA_cons (okN_cD n c) (okA_cls n f)
theorem okN_fD (n : Nat) (f : List (List Int)) : okN (n + 2) (fD f) := okN_lst (okA_cls n f)
end DL
namespace DL
open PySem L2
theorem fcell (ns : List Int) (k : Int) : f__law_cell [.scr ns, .int k] = .ok (.int (cellZ ns k)) := cell_eq ns k
theorem fmix (ns : List Int) (k : Int) : f__law_mix [.scr ns, .int k] = .ok (.int (mixZ ns k)) := mix_eq ns k
/-- a number of a list of numbers -/
def pk (xs : List Int) (i : Int) : Int := match atI xs i with
  | some x => x
  | none => 0
theorem pk_at {xs : List Int} {i : Int} (h0 : 0 ≤ i) (h : i < xs.length) : atI (xs.map D.int) i = some (.int (pk xs i)) ∧ pk xs i ∈ xs := by
  obtain ⟨x, hx, e⟩ := atI_mem h0 h
  unfold pk
  rw [atI_map, e]
  exact ⟨rfl, hx⟩
end DL
namespace DL
open PySem L2
/-! ### _law_clause -/
def litZ (ns : List Int) (b v : Int) (k : Nat) : Int := (1 + mixZ ns (b + 1 + k) / 2 % v) * (1 - 2 * (mixZ ns (b + 1 + k) % 2))
def sizeZ (ns : List Int) (b m : Int) : Int := pk [1, 2, 3, 2, 3, mixZ ns b / 6 % (m + 1)] (mixZ ns b % 6)
def clZ (ns : List Int) (b v m : Int) : List Int := (List.range (sizeZ ns b m).toNat).map (litZ ns b v)
theorem litZ_ok (ns : List Int) (b : Int) {v : Int} (hv : 0 < v) (k : Nat) : litOk v.toNat (litZ ns b v k) := by
  unfold litZ litOk
  have h1 := md_lo (mixZ ns (b + 1 + k) / 2) hv
  have h2 := md_hi (mixZ ns (b + 1 + k) / 2) hv
  have h3 := md_lo (mixZ ns (b + 1 + k)) (b := 2) (by decide)
  have h4 := md_hi (mixZ ns (b + 1 + k)) (b := 2) (by decide)
  generalize mixZ ns (b + 1 + k) / 2 % v = x at *
  generalize mixZ ns (b + 1 + k) % 2 = y at *
  have : y = 0 ∨ y = 1 := by omega
  rcases this with rfl | rfl
  · simp; omega
  · simp; omega
theorem clZ_ok (ns : List Int) (b : Int) {v : Int} (hv : 0 < v) (m : Int) : InR v.toNat (clZ ns b v m) := by
  intro l hl
  unfold clZ at hl
  obtain ⟨k, _, rfl⟩ := List.mem_map.mp hl
  exact litZ_ok ns b hv k
theorem sizeZ_lo (ns : List Int) (b : Int) {m : Int} (hm : 0 ≤ m) : 0 ≤ sizeZ ns b m ∧ sizeZ ns b m ≤ 3 + m := by
  have h := (pk_at (xs := [1, 2, 3, 2, 3, mixZ ns b / 6 % (m + 1)]) (md_lo (mixZ ns b) (b := 6) (by decide)) (md_hi (mixZ ns b) (b := 6) (by decide))).2
  have h1 := md_lo (mixZ ns b / 6) (b := m + 1) (by omega)
  have h2 := md_hi (mixZ ns b / 6) (b := m + 1) (by omega)
  unfold sizeZ
  generalize pk [1, 2, 3, 2, 3, mixZ ns b / 6 % (m + 1)] (mixZ ns b % 6) = x at *
  simp at h
  rcases h with h | h | h | h <;> omega
theorem clZ_len (ns : List Int) (b v : Int) {m : Int} (hm : 0 ≤ m) : (clZ ns b v m).length ≤ 3 + m.toNat := by
  have := sizeZ_lo ns b hm
  simp [clZ]; omega
theorem fclause (ns : List Int) (b : Int) {v m : Int} (hv : 0 < v) (hm : 0 ≤ m) (hm2 : m < 1000) : f__law_clause [.scr ns, .int b, .int v, .int m] = .ok (cD (clZ ns b v m)) := by
  have p := (pk_at (xs := [1, 2, 3, 2, 3, mixZ ns b / 6 % (m + 1)]) (md_lo (mixZ ns b) (b := 6) (by decide)) (md_hi (mixZ ns b) (b := 6) (by decide))).1
  have hs := sizeZ_lo ns b hm
  refine run_rt ?_
  show m__law_clause [.fz (.scr ns), .fz (.int b), .fz (.int v), .fz (.int m), .un, .un, .un, .un, .un] = _
  refine seq_nx (S1 := [.fz (.scr ns), .fz (.int b), .fz (.int v), .fz (.int m), .fz (.int (mixZ ns b)), .un, .un, .un, .un]) (by simp [s0__law_clause, fmix]) ?_
  refine seq_nx (S1 := [.fz (.scr ns), .fz (.int b), .fz (.int v), .fz (.int m), .fz (.int (mixZ ns b)), .fz (.int (sizeZ ns b m)), .un, .un, .un]) ?_ ?_
  · have e1 : modD (.int (mixZ ns b / 6)) (.int (m + 1)) = .ok (.int (mixZ ns b / 6 % (m + 1))) := modI (by omega)
    have e2 := fdivI (i := mixZ ns b) (j := 6) (by decide) (by decide)
    simp only [List.map_cons, List.map_nil] at p
    simp [s1__law_clause, e1, e2, limS, modI, p, sizeZ]
  refine seq_nx (S1 := [.fz (.scr ns), .fz (.int b), .fz (.int v), .fz (.int m), .fz (.int (mixZ ns b)), .fz (.int (sizeZ ns b m)), .ol [], .un, .un]) (by simp [s2__law_clause, limS]) ?_
  obtain ⟨S', e, i⟩ := loop_nx (t := .one 7) (body := b0__law_clause) (xs := List.range (sizeZ ns b m).toNat) (S := [.fz (.scr ns), .fz (.int b), .fz (.int v), .fz (.int m), .fz (.int (mixZ ns b)), .fz (.int (sizeZ ns b m)), .ol [], .un, .un]) (fun i : Nat => D.int (i : Int))
    (fun pre S => ∃ x y, S = [.fz (.scr ns), .fz (.int b), .fz (.int v), .fz (.int m), .fz (.int (mixZ ns b)), .fz (.int (sizeZ ns b m)), .ol ((pre.map (litZ ns b v)).map D.int), x, y]) (by
      rintro pre k post S hx ⟨x, y, rfl⟩
      refine ⟨_, [.fz (.scr ns), .fz (.int b), .fz (.int v), .fz (.int m), .fz (.int (mixZ ns b)), .fz (.int (sizeZ ns b m)), .ol ((pre.map (litZ ns b v)).map D.int ++ [.int (litZ ns b v k)]), .fz (.int k), .fz (.int (mixZ ns (b + 1 + k)))], rfl, .inl ?_, ⟨_, _, by rw [List.map_append, List.map_append]; rfl⟩⟩
      refine seq_nx (S1 := [.fz (.scr ns), .fz (.int b), .fz (.int v), .fz (.int m), .fz (.int (mixZ ns b)), .fz (.int (sizeZ ns b m)), .ol ((pre.map (litZ ns b v)).map D.int), .fz (.int k), .fz (.int (mixZ ns (b + 1 + k)))]) (by simp [fmix]) ?_
      have hlen : pre.length ≤ (sizeZ ns b m).toNat := by
        have := congrArg List.length hx
        simp at this
        omega
      refine mApp_eq (ds := (pre.map (litZ ns b v)).map D.int) rfl ?_ (by simp; have := big; omega)
      have e1 := fdivI (i := mixZ ns (b + 1 + k)) (j := 2) (by decide) (by decide)
      have e2 := modI (i := mixZ ns (b + 1 + k) / 2) hv
      have h3 := md_lo (mixZ ns (b + 1 + k)) (b := 2) (by decide)
      have h4 := md_hi (mixZ ns (b + 1 + k)) (b := 2) (by decide)
      have e3 := mulR (i := 2) (j := mixZ ns (b + 1 + k) % 2) (by omega) (by omega)
      have e4 := mulR (i := 1 + mixZ ns (b + 1 + k) / 2 % v) (j := 1 - 2 * (mixZ ns (b + 1 + k) % 2)) (by omega) (by omega)
      simp [e1, e2, e3, e4, modI, litZ]) ⟨_, _, rfl⟩
  obtain ⟨x, y, rfl⟩ := i
  refine seq_nx (S1 := _) (by
    show mFor _ _ _ _ = _
    rw [s_mFor]
    simp only [i0__law_clause, s_aCons, s_getV0, s_getVs, R.bind_ok, s_aNil, rng1_eq (n := sizeZ ns b m) (by omega) (by omega), toSL_ok]
    exact e) ?_
  simp [s4__law_clause, cD, clZ]
end DL
namespace DL
open PySem L2
theorem funlike (c : List Int) (hc : c.length ≤ 1000) : f_unlike [cD c] = .ok (cD (unlikeL c)) := by
  have hb := big
  refine run_rt ?_
  show m_unlike [.fz (cD c), .un, .un] = _
  refine seq_nx (S1 := [.fz (cD c), .ol [], .un]) (by simp [s0_unlike, limS]) ?_
  obtain ⟨S', e, x, rfl⟩ := loop_nx (t := .one 2) (body := b0_unlike) (xs := c) (S := [.fz (cD c), .ol [], .un]) D.int
    (fun pre S => ∃ x, S = [.fz (cD c), .ol ((unlikeL pre).map D.int), x]) (by
      rintro pre l post S hx ⟨x, rfl⟩
      have h1 : pre.length ≤ c.length := by rw [hx]; simp
      have h2 := len_unlikeL pre
      refine ⟨_, [.fz (cD c), .ol ((unlikeL (pre ++ [l])).map D.int), .fz (.int l)], rfl, .inl ?_, _, rfl⟩
      show b0_unlike [.fz (cD c), .ol ((unlikeL pre).map D.int), .fz (.int l)] = _
      rw [unlikeL_snoc]
      by_cases h : l ∈ unlikeL pre
      · simp [b0_unlike, notInD, in_lst, h]
      · rw [if_neg h]
        have e7 := mApp_eq (i := 1) (m := getF 2) (S := [.fz (cD c), .ol ((unlikeL pre).map D.int), .fz (.int l)]) (ds := (unlikeL pre).map D.int) (d := .int l) rfl rfl (by rw [List.length_map]; omega)
        simp [b0_unlike, notInD, in_lst, h, e7]) ⟨_, rfl⟩
  refine seq_nx (S1 := _) (show mFor _ _ _ _ = _ by
    rw [s_mFor]
    simp only [s_mItems, s_getF0, R.bind_ok, cD, s_itemsT, toSL_ok]
    exact e) ?_
  simp [s2_unlike, cD]

end DL
namespace DL
open PySem L2
theorem fhas_both (c : List Int) (hc : c.length ≤ 1000) : f_has_both [cD c] = .ok (.bl (bothL c)) := by
  refine run_rt ?_
  show s0_has_both [.fz (cD c), .un] = _
  have e : mLc (.one 1) [1] (mItems (getV 0)) mYes e0_has_both [.fz (cD c), .un] = .ok (c.map fun l => .bl (decide (-l ∈ c))) :=
    mLc_map c D.int _ rfl (by have := big; omega) fun l hl => ⟨_, rfl, by simp [e0_has_both, wipeS, cD, in_tup]⟩
  simp only [s0_has_both, s_mRet, s_aCons, e, R.bind_ok, s_aNil, s_on1, any_map, toS_ok]
  rfl
end DL
/-! Tables, hints walked, groups: no program in sight. -/
namespace DL
open PySem L2

/-! ### views of params that a def changes -/
@[simp] theorem s_getV0pd (j : Nat) (d : List (Int × D)) (S : List Sl) : getV 0 (.pd j d :: S) = .ok (.dct d) := id rfl
@[simp] theorem s_getV0pl (j : Nat) (d : List D) (S : List Sl) : getV 0 (.pl j d :: S) = .ok (.lst d) := id rfl

theorem mCallM_eq {i : Nat} {f : List Sl → RS} {m : List Sl → R (List D × List D)} {S : List Sl} {d1 d2 : List D} {s t t' s' : Sl} {d : D} {Sc : List Sl} (hm : m S = .ok (d1, d2)) (hs : S[i]? = some s) (ht : lend1 d1.length s = some t)
    (hf : f (d1.map Sl.fz ++ t :: d2.map Sl.fz) = .ok d Sc) (ht' : Sc[d1.length]? = some t') (hb : back1 s t' = some s') : mCallM i f m S = .ok d (S.set i s') := by
  unfold mCallM
  rw [hm]
  simp only [hs, ht, hf, ht', hb]
theorem scalD_bl (b : Bool) : scalD (.bl b) = .ok (.bl b) := id rfl
/-! ### truths as pairs -/
def dE (x : List (Int × Int)) : List (Int × D) := x.map fun p => (p.1, .int p.2)
def getZ (x : List (Int × Int)) (k : Int) : Option Int := (x.find? fun p => decide (p.1 = k)).map (·.2)
def putZ (x : List (Int × Int)) (k v : Int) : List (Int × Int) := if (x.any fun e => decide (e.1 = k)) = true then x.map (fun e => if e.1 = k then (e.1, v) else e) else x ++ [(k, v)]
theorem keyD_dE : ∀ (x : List (Int × Int)) (k : Int), keyD (dE x) k = (getZ x k).map D.int
  | [], k => rfl
  | p :: x, k => by
    have ih := keyD_dE x k
    unfold keyD getZ dE at *
    rw [List.map_cons, List.find?_cons, List.find?_cons]
    by_cases c : p.1 = k
    · simp [c]
    · simp only [c, decide_false]; exact ih
theorem putD_dE (x : List (Int × Int)) (k v : Int) : putD (dE x) k (.int v) = dE (putZ x k v) := by
  unfold putD putZ dE
  rw [List.any_map]
  have e : (x.any ((fun e : Int × D => decide (e.1 = k)) ∘ fun p : Int × Int => (p.1, D.int p.2))) = x.any fun e => decide (e.1 = k) := rfl
  rw [e]
  split
  · rw [List.map_map, List.map_map]
    refine List.map_congr_left fun p _ => ?_
    simp only [Function.comp_def]
    split <;> rfl
  · rw [List.map_append]; rfl
theorem putZ_len (x : List (Int × Int)) (k v : Int) : (putZ x k v).length ≤ x.length + 1 := by
  unfold putZ
  split <;> simp
theorem getZ_cons (p : Int × Int) (x : List (Int × Int)) (j : Int) : getZ (p :: x) j = if p.1 = j then some p.2 else getZ x j := by
  unfold getZ
  rw [List.find?_cons]
  by_cases c : p.1 = j <;> simp [c]
theorem getZ_app (x y : List (Int × Int)) (j : Int) : getZ (x ++ y) j = (getZ x j).or (getZ y j) := by
  induction x with
  | nil => rfl
  | cons p x ih =>
    rw [List.cons_append, getZ_cons, getZ_cons, ih]
    split <;> rfl
theorem getZ_map (k v : Int) (j : Int) : ∀ x : List (Int × Int), getZ (x.map fun e => if e.1 = k then (e.1, v) else e) j = if j = k then (if (x.any fun e => decide (e.1 = k)) = true then some v else none) else getZ x j
  | [] => by simp [getZ]
  | p :: x => by
    rw [List.map_cons, getZ_cons, getZ_cons, getZ_map k v j x, List.any_cons]
    by_cases c : p.1 = k
    · rw [if_pos c]
      by_cases d : j = k
      · subst d; simp [c]
      · have : ¬ p.1 = j := by omega
        simp [this, d]
    · rw [if_neg c]
      by_cases d : j = k
      · subst d; rw [if_pos rfl, if_neg c, if_pos rfl, decide_eq_false c, Bool.false_or]
      · simp [d]
theorem getZ_none {x : List (Int × Int)} {k : Int} (h : ¬ (x.any fun e => decide (e.1 = k)) = true) : getZ x k = none := by
  unfold getZ
  have : x.find? (fun p => decide (p.1 = k)) = none := by
    rw [List.find?_eq_none]
    intro p hp hk
    exact h (List.any_eq_true.mpr ⟨p, hp, hk⟩)
  rw [this]; rfl
theorem getZ_putZ (x : List (Int × Int)) (k v j : Int) : getZ (putZ x k v) j = if j = k then some v else getZ x j := by
  unfold putZ
  split
  · rename_i h
    rw [getZ_map, if_pos h]
  · rename_i h
    rw [getZ_app, getZ_cons]
    by_cases d : j = k
    · subst d; simp [getZ_none h]
    · have : ¬ k = j := fun e => d e.symm
      have e2 : getZ [] j = none := rfl
      simp [this, d, e2]
/-- the truths of a dict are those of a list -/
def relT (x : List (Int × Int)) (L : List Int) : Prop := 0 ∉ L ∧ ∀ l : Int, l ≠ 0 → (getZ x (l.natAbs : Int) = some l ↔ l ∈ L)
theorem relT_nil : relT [] [] := ⟨by simp, fun l _ => by simp [getZ]⟩
theorem relT.z {x : List (Int × Int)} {L : List Int} (h : relT x L) {l : Int} (hl : l ∈ L) : l ≠ 0 := fun e => h.1 (e ▸ hl)
theorem relT.nb {x : List (Int × Int)} {L : List Int} (h : relT x L) {l : Int} (hl : l ∈ L) : -l ∉ L := fun hn => by
  have h0 := h.z hl
  have e1 := (h.2 l h0).mpr hl
  have e2 := (h.2 (-l) (by omega)).mpr hn
  rw [Int.natAbs_neg, e1] at e2
  have e3 := Option.some.inj e2
  omega
theorem relT.put {x : List (Int × Int)} {L : List Int} (h : relT x L) {l : Int} (h0 : l ≠ 0) (hn : -l ∉ L) : relT (putZ x (l.natAbs : Int) l) (L ++ [l]) := by
  refine ⟨fun z => ?_, fun j hj => ?_⟩
  · rcases List.mem_append.mp z with z | z
    · exact h.1 z
    · rw [List.mem_singleton] at z; exact h0 z.symm
  · rw [getZ_putZ, List.mem_append, List.mem_singleton]
    by_cases c : (j.natAbs : Int) = (l.natAbs : Int)
    · rw [if_pos c]
      have : j = l ∨ j = -l := by omega
      rcases this with rfl | rfl
      · simp
      · constructor
        · intro e
          have e3 := Option.some.inj e
          omega
        · rintro (e | e)
          · exact absurd e hn
          · omega
    · rw [if_neg c, h.2 j hj]
      constructor
      · exact .inl
      · rintro (e | e)
        · exact e
        · subst e; exact absurd rfl c
theorem abs_nat (l : Int) : (if l < 0 then -l else l) = (l.natAbs : Int) := by split <;> omega
theorem getZ_D (x : List (Int × Int)) (k d : Int) : (keyD (dE x) k).getD (.int d) = .int ((getZ x k).getD d) := by
  rw [keyD_dE]
  cases getZ x k <;> rfl
theorem relT.yes {x : List (Int × Int)} {L : List Int} (h : relT x L) {l : Int} (h0 : l ≠ 0) : decide ((getZ x (l.natAbs : Int)).getD 0 = l) = decide (l ∈ L) := by
  rw [Bool.eq_iff_iff, decide_eq_true_iff, decide_eq_true_iff, ← h.2 l h0]
  cases getZ x (l.natAbs : Int) with
  | none => simp; omega
  | some t => simp
theorem relT.no {x : List (Int × Int)} {L : List Int} (h : relT x L) {l : Int} (h0 : l ≠ 0) : decide ((getZ x (l.natAbs : Int)).getD 0 = -l) = decide (-l ∈ L) := by
  have := h.yes (l := -l) (by omega)
  rw [Int.natAbs_neg] at this
  exact this

/-! ### tables -/
abbrev Tb := List (Int × List Int)
def tE (t : Tb) : List (Int × D) := t.map fun e => (e.1, cD e.2)
def tget (t : Tb) (k : Int) : Option (List Int) := (t.find? fun e => decide (e.1 = k)).map (·.2)
theorem keyD_tE : ∀ (t : Tb) (k : Int), keyD (tE t) k = (tget t k).map cD
  | [], k => rfl
  | p :: t, k => by
    have ih := keyD_tE t k
    unfold keyD tget tE at *
    rw [List.map_cons, List.find?_cons, List.find?_cons]
    by_cases c : p.1 = k
    · simp [c]
    · simp only [c, decide_false]; exact ih
theorem tget_mem {t : Tb} {k : Int} {c : List Int} (h : tget t k = some c) : (k, c) ∈ t := by
  unfold tget at h
  cases e : t.find? fun e => decide (e.1 = k) with
  | none => rw [e] at h; cases h
  | some p =>
    rw [e] at h
    cases h
    have h1 : p.1 = k := by simpa using List.find?_some e
    have h2 := List.mem_of_find?_eq_some e
    obtain ⟨a, b⟩ := p
    cases h1
    exact h2
theorem tget_of_mem {t : Tb} {k : Int} {c : List Int} (h : (k, c) ∈ t) : ∃ d, tget t k = some d := by
  unfold tget
  cases e : t.find? fun e => decide (e.1 = k) with
  | none =>
    rw [List.find?_eq_none] at e
    exact absurd (decide_eq_true rfl) (e _ h)
  | some p => exact ⟨_, rfl⟩
structure TbOk (t : Tb) : Prop where
  z : ∀ e ∈ t, 0 ∉ e.2
  l : ∀ e ∈ t, e.2.length ≤ 1000
  n : t.length ≤ 1000
theorem TbOk.at {t : Tb} (h : TbOk t) {k : Int} {c : List Int} (e : tget t k = some c) : 0 ∉ c ∧ c.length ≤ 1000 := ⟨h.z _ (tget_mem e), h.l _ (tget_mem e)⟩

/-! ### open literals -/
def openL (L c : List Int) : List Int := (unlikeL c).filter fun l => !decide (-l ∈ L)
theorem mem_openL {L c : List Int} {l : Int} : l ∈ openL L c ↔ l ∈ c ∧ -l ∉ L := by
  unfold openL
  rw [List.mem_filter, mem_unlikeL]
  simp
theorem openL_len (L c : List Int) : (openL L c).length ≤ c.length := Nat.le_trans (List.length_filter_le _ _) (len_unlikeL c)
theorem openL_snoc (L c : List Int) (l : Int) : openL L (c ++ [l]) = if -l ∉ L ∧ l ∉ openL L c then openL L c ++ [l] else openL L c := by
  unfold openL
  rw [unlikeL_snoc]
  by_cases h : -l ∈ L
  · have hn : ¬ (-l ∉ L ∧ l ∉ (unlikeL c).filter fun l => !decide (-l ∈ L)) := fun z => z.1 h
    rw [if_neg hn]
    by_cases m : l ∈ unlikeL c
    · rw [if_pos m]
    · rw [if_neg m, List.filter_append]; simp [h]
  · by_cases m : l ∈ unlikeL c
    · have hn : ¬ (-l ∉ L ∧ l ∉ (unlikeL c).filter fun l => !decide (-l ∈ L)) := fun z => z.2 (List.mem_filter.mpr ⟨m, by simpa using h⟩)
      rw [if_pos m, if_neg hn]
    · have hn : -l ∉ L ∧ l ∉ (unlikeL c).filter fun l => !decide (-l ∈ L) := ⟨h, fun z => m (List.mem_filter.mp z).1⟩
      rw [if_neg m, if_pos hn, List.filter_append]
      simp [h]

/-! ### hints walked: 1 out, 0 wrong, 2 ended; how many were used; the truths -/
def walkL (t : Tb) : List Int → List Int → Nat → Nat × Nat × List Int
  | L, [], u => (1, u, L)
  | L, h :: hs, u =>
    if h < 0 then (1, u, L) else
    match tget t h with
    | none => (0, u, L)
    | some c => match openL L c with
      | [] => (2, u + 1, L)
      | x :: r => if r ≠ [] ∨ x ∈ L then (0, u + 1, L) else walkL t (L ++ [x]) hs (u + 1)
theorem walkL_used (t : Tb) : ∀ (hs L : List Int) (u : Nat), u ≤ (walkL t L hs u).2.1 ∧ (walkL t L hs u).2.1 ≤ u + hs.length
  | [], L, u => ⟨Nat.le_refl _, Nat.le_refl _⟩
  | h :: hs, L, u => by
    unfold walkL
    split
    · simp
    · split
      · simp
      · split
        · simp
        · split
          · simp
          · have := walkL_used t hs (L ++ [‹Int›]) (u + 1)
            simp only [List.length_cons]
            omega
/-! ### groups -/
def partS (o : Option (List (Int × List Int))) (h : Int) : Option (List (Int × List Int)) := o.bind fun gs => if h < 0 then some (gs ++ [(-h, [])]) else lastG gs h
def partL (hs : List Int) : Option (List (Int × List Int)) := hs.foldl partS (some [])
/-- the truths at a group's hints; none where a literal is true at its turn -/
def gtr (first : Int) : List Int → List Int → Option (List Int)
  | L, [] => some L
  | L, l :: c => if l = -first then gtr first L c else if l ∈ L then none else gtr first (L ++ [-l]) c
def groupL (t : Tb) (L : List Int) (first n : Int) (hs : List Int) : Bool := match tget t n with
  | none => false
  | some c => match gtr first L c with
    | none => hs.isEmpty
    | some L' => decide ((walkL t L' hs 0).1 = 2 ∧ (walkL t L' hs 0).2.1 = hs.length)
def wantL (t : Tb) (first : Int) : List Int := (t.map (·.1)).filter fun k => match tget t k with
  | some c => decide (-first ∈ c)
  | none => false
def followsL (t : Tb) (c hs : List Int) : Bool :=
  if bothL c = true then true else
  let r := walkL t (c.map fun l => -l) hs 0
  if r.1 = 2 then true else if r.1 = 0 then false else match c with
    | [] => false
    | first :: _ => match partL (hs.drop r.2.1) with
      | none => false
      | some gs => decide (srt (gs.map (·.1)) = srt (wantL t first)) && gs.all fun g => groupL t r.2.2 first g.1 g.2
theorem srt_filter (p : Int → Bool) (ks : List Int) : (srt ks).filter p = srt (ks.filter p) :=
  srt_uniq ((srt_perm ks).filter p) ((srt_pair ks).sublist List.filter_sublist)
end DL
/-! What follows keeps: no program in sight. -/
namespace DL
open PySem L2

/-- a table under truths -/
def tt (σ : Asg) (t : Tb) : Prop := ∀ e ∈ t, ct σ e.2 = true
def lts (σ : Asg) (L : List Int) : Prop := ∀ l ∈ L, lt σ l = true
theorem lts_app {σ : Asg} {L : List Int} {x : Int} (h : lts σ L) (hx : lt σ x = true) : lts σ (L ++ [x]) := by
  intro l hl
  rcases List.mem_append.mp hl with z | z
  · exact h l z
  · rw [List.mem_singleton] at z; subst z; exact hx
theorem open_true {σ : Asg} {L c : List Int} (hL : lts σ L) (h0 : 0 ∉ c) (hc : ct σ c = true) : ∃ l ∈ openL L c, lt σ l = true := by
  obtain ⟨l, hl, e⟩ := List.any_eq_true.mp hc
  refine ⟨l, mem_openL.mpr ⟨hl, fun z => ?_⟩, e⟩
  have := hL _ z
  rw [lt_neg (fun q => h0 (q ▸ hl)), e] at this
  cases this
theorem walk_sound {t : Tb} (ht : ∀ e ∈ t, 0 ∉ e.2) {σ : Asg} (hσ : tt σ t) : ∀ (hs L : List Int) (u : Nat), lts σ L → (walkL t L hs u).1 ≠ 2 ∧ lts σ (walkL t L hs u).2.2
  | [], L, u, h => ⟨by simp [walkL], h⟩
  | a :: hs, L, u, h => by
    unfold walkL
    by_cases c0 : a < 0
    · rw [if_pos c0]; exact ⟨by simp, h⟩
    rw [if_neg c0]
    cases hg : tget t a with
    | none => exact ⟨by simp, h⟩
    | some c =>
      simp only
      have hm := tget_mem hg
      obtain ⟨l, hl, e⟩ := open_true h (ht _ hm) (hσ _ hm)
      cases hop : openL L c with
      | nil => rw [hop] at hl; cases hl
      | cons x r =>
        simp only
        by_cases cc : r ≠ [] ∨ x ∈ L
        · rw [if_pos cc]; exact ⟨by simp, h⟩
        · rw [if_neg cc]
          have hr : r = [] := by
            by_cases z : r = []
            · exact z
            · exact absurd (.inl z) cc
          rw [hop, hr, List.mem_singleton] at hl
          subst hl
          exact walk_sound ht hσ hs (L ++ [l]) (u + 1) (lts_app h e)
theorem neg_lts {σ : Asg} {c : List Int} (h0 : 0 ∉ c) (hc : ct σ c = false) : lts σ (c.map fun l => -l) := by
  intro l hl
  obtain ⟨a, ha, rfl⟩ := List.mem_map.mp hl
  rw [lt_neg (fun q => h0 (q ▸ ha))]
  have : lt σ a = false := by
    have := List.any_eq_false.mp hc a ha
    simpa using this
  rw [this]; rfl
/-- hints that end a clause: it holds under every truths of the table -/
theorem ended_sound {t : Tb} (ht : ∀ e ∈ t, 0 ∉ e.2) {c hs : List Int} (h0 : 0 ∉ c) (hw : (walkL t (c.map fun l => -l) hs 0).1 = 2) {σ : Asg} (hσ : tt σ t) : ct σ c = true := by
  cases h : ct σ c with
  | true => rfl
  | false => exact absurd hw (walk_sound ht hσ hs _ 0 (neg_lts h0 h)).1
theorem gtr_true {σ : Asg} {first : Int} : ∀ (d L : List Int), lts σ L → (∀ l ∈ d, l ≠ -first → l ≠ 0 ∧ lt σ l = false) → ∃ L', gtr first L d = some L' ∧ lts σ L'
  | [], L, h, _ => ⟨L, rfl, h⟩
  | l :: d, L, h, hd => by
    have hd' : ∀ l ∈ d, l ≠ -first → l ≠ 0 ∧ lt σ l = false := fun x hx => hd x (List.mem_cons_of_mem _ hx)
    unfold gtr
    by_cases c : l = -first
    · rw [if_pos c]; exact gtr_true d L h hd'
    · rw [if_neg c]
      obtain ⟨h1, h2⟩ := hd l (List.mem_cons_self ..) c
      rw [if_neg (fun z => by rw [h l z] at h2; cases h2)]
      refine gtr_true d _ (lts_app h ?_) hd'
      rw [lt_neg h1, h2]; rfl
/-- one variable otherwise: a literal made true -/
def flip (σ : Asg) (l : Int) : Asg := fun k => if k = l.natAbs then decide (0 < l) else σ k
theorem lt_flip {σ : Asg} {l : Int} (h : l ≠ 0) : lt (flip σ l) l = true := by
  unfold lt flip
  rw [if_pos rfl]
  by_cases p : 0 < l
  · rw [if_pos p, decide_eq_true p]
  · rw [if_neg p, decide_eq_false p]; rfl
theorem lt_flip_ne {σ : Asg} {l x : Int} (h : x.natAbs ≠ l.natAbs) : lt (flip σ l) x = lt σ x := by
  unfold lt flip
  rw [if_neg h]
theorem follows_sound {t : Tb} (ht : ∀ e ∈ t, 0 ∉ e.2) (hd : ∀ e ∈ t, tget t e.1 = some e.2) {c hs : List Int} (h0 : 0 ∉ c) (hf : followsL t c hs = true) {σ : Asg} (hσ : tt σ t) : ∃ τ, tt τ t ∧ ct τ c = true := by
  cases hc : ct σ c with
  | true => exact ⟨σ, hσ, hc⟩
  | false =>
    unfold followsL at hf
    by_cases hb : bothL c = true
    · exfalso
      obtain ⟨l, hl, e⟩ := List.any_eq_true.mp hb
      have e := of_decide_eq_true e
      have hz : l ≠ 0 := fun q => h0 (q ▸ hl)
      have h1 : lt σ l = false := by simpa using List.any_eq_false.mp hc l hl
      have h2 : lt σ (-l) = false := by simpa using List.any_eq_false.mp hc _ e
      rw [lt_neg hz, h1] at h2; cases h2
    rw [if_neg hb] at hf
    obtain ⟨w1, w2⟩ := walk_sound ht hσ hs _ 0 (neg_lts h0 hc)
    generalize walkL t (c.map fun l => -l) hs 0 = W at *
    obtain ⟨st, u, L⟩ := W
    simp only at hf w1 w2
    rw [if_neg w1] at hf
    by_cases s0 : st = 0
    · rw [if_pos s0] at hf; cases hf
    rw [if_neg s0] at hf
    cases c with
    | nil => cases hf
    | cons first r =>
      simp only at hf
      cases hp : partL (hs.drop u) with
      | none => rw [hp] at hf; cases hf
      | some gs =>
        rw [hp] at hf
        simp only [Bool.and_eq_true, decide_eq_true_eq] at hf
        obtain ⟨hsrt, hall⟩ := hf
        have hf0 : first ≠ 0 := fun q => h0 (by rw [q]; exact List.mem_cons_self ..)
        refine ⟨flip σ first, fun e he => ?_, List.any_eq_true.mpr ⟨first, List.mem_cons_self .., lt_flip hf0⟩⟩
        cases hτ : ct (flip σ first) e.2 with
        | true => rfl
        | false =>
          exfalso
          have hfal : ∀ l ∈ e.2, lt (flip σ first) l = false := fun l hl => by simpa using List.any_eq_false.mp hτ l hl
          have hfal2 : ∀ l ∈ e.2, l ≠ -first → lt σ l = false := by
            intro l hl hne
            have h1 := hfal l hl
            by_cases z : l.natAbs = first.natAbs
            · have : l = first := by omega
              rw [this, lt_flip hf0] at h1; cases h1
            · rw [lt_flip_ne z] at h1; exact h1
          have hin : -first ∈ e.2 := by
            obtain ⟨l, hl, e1⟩ := List.any_eq_true.mp (hσ e he)
            by_cases z : l = -first
            · exact z ▸ hl
            · rw [hfal2 l hl z] at e1; cases e1
          have hk : e.1 ∈ wantL t first := by
            unfold wantL
            rw [List.mem_filter]
            refine ⟨List.mem_map.mpr ⟨e, he, rfl⟩, ?_⟩
            rw [hd e he]
            exact decide_eq_true hin
          have hk2 : e.1 ∈ gs.map (·.1) := by
            rw [← (srt_perm _).mem_iff, hsrt, (srt_perm _).mem_iff]; exact hk
          obtain ⟨g, hg, hg1⟩ := List.mem_map.mp hk2
          have hgl := List.all_eq_true.mp hall g hg
          unfold groupL at hgl
          rw [hg1, hd e he] at hgl
          simp only at hgl
          obtain ⟨L', hL', hL2⟩ := gtr_true (first := first) e.2 L w2 (fun l hl hne => ⟨fun q => ht e he (q ▸ hl), hfal2 l hl hne⟩)
          rw [hL'] at hgl
          simp only [decide_eq_true_eq] at hgl
          exact (walk_sound ht hσ g.2 L' 0 hL2).1 hgl.1
/-! ### models -/
theorem mem_models {v : Nat} {f : List (List Int)} (hf : ∀ c ∈ f, InR v c) {m : List Int} : m ∈ models v f ↔ ∃ σ, m = asg v σ ∧ ft σ f = true := by
  have key : ∀ σ, (f.all fun c => c.any fun l => decide (l ∈ asg v σ)) = ft σ f := by
    intro σ
    unfold ft
    rw [Bool.eq_iff_iff, List.all_eq_true, List.all_eq_true]
    constructor
    · intro h c hc; rw [← any_asg (hf c hc)]; exact h c hc
    · intro h c hc; rw [any_asg (hf c hc)]; exact h c hc
  unfold models
  rw [List.mem_filter, List.mem_map]
  constructor
  · rintro ⟨⟨n, _, rfl⟩, h⟩
    exact ⟨ofS v n, rfl, by rw [← key]; exact h⟩
  · rintro ⟨σ, rfl, h⟩
    obtain ⟨n, hn, e⟩ := ofS_ex σ v
    have e2 := asg_ext e
    refine ⟨⟨n, List.mem_range.mpr hn, e2⟩, by rw [key]; exact h⟩
end DL
/-! Tables by odd numbers. -/
namespace DL
open PySem L2
theorem putD_new {es : List (Int × D)} {k : Int} {d : D} (h : ∀ e ∈ es, e.1 ≠ k) : putD es k d = es ++ [(k, d)] := by
  unfold putD
  rw [if_neg]
  rw [List.any_eq_true]
  rintro ⟨e, he, hk⟩
  exact h e he (of_decide_eq_true hk)
/-- clauses by numbers: a * k + b of the place k -/
def numT (g : Nat → Int) (f : List (List Int)) : Tb := (List.range f.length).map fun k => (g k, f.getD k [])
theorem numT_len (g : Nat → Int) (f : List (List Int)) : (numT g f).length = f.length := by simp [numT]
theorem numT_mem {g : Nat → Int} {f : List (List Int)} {e : Int × List Int} (h : e ∈ numT g f) : ∃ k, k < f.length ∧ e.1 = g k ∧ e.2 ∈ f := by
  obtain ⟨k, hk, rfl⟩ := List.mem_map.mp h
  have hk := List.mem_range.mp hk
  refine ⟨k, hk, rfl, ?_⟩
  simp only [List.getD_eq_getElem?_getD, List.getElem?_eq_getElem hk, Option.getD_some]
  exact List.getElem_mem _
theorem numT_ok {g : Nat → Int} {f : List (List Int)} (h0 : ∀ c ∈ f, 0 ∉ c) (hl : ∀ c ∈ f, c.length ≤ 1000) (hn : f.length ≤ 1000) : TbOk (numT g f) := by
  refine ⟨fun e he => ?_, fun e he => ?_, by rw [numT_len]; exact hn⟩
  · obtain ⟨_, _, _, h⟩ := numT_mem he; exact h0 _ h
  · obtain ⟨_, _, _, h⟩ := numT_mem he; exact hl _ h
/-- a loop that puts clauses by their numbers -/
theorem num_put {g : Nat → Int} {f : List (List Int)} (hg : ∀ i j, g i = g j → i = j) {k : Nat} (hk : k < f.length) : putD (tE ((List.range k).map fun j => (g j, f.getD j []))) (g k) (cD (f.getD k [])) = tE ((List.range (k + 1)).map fun j => (g j, f.getD j [])) := by
  rw [putD_new]
  · rw [List.range_succ]; simp [tE]
  · intro e he z
    unfold tE at he
    rw [List.map_map] at he
    obtain ⟨j, hj, rfl⟩ := List.mem_map.mp he
    have := List.mem_range.mp hj
    have := hg j k z
    omega
theorem f_at {f : List (List Int)} {k : Nat} (hk : k < f.length) : atI (f.map cD) (k : Int) = some (cD (f.getD k [])) := by
  refine atI_nat ?_
  rw [List.getElem?_map, List.getElem?_eq_getElem hk, List.getD_eq_getElem?_getD, List.getElem?_eq_getElem hk]; rfl
theorem fD_ix {f : List (List Int)} {k : Nat} (hk : k < f.length) : ixD (fD f) (.int (k : Int)) = .ok (cD (f.getD k [])) := by
  unfold fD
  rw [s_ixL, f_at hk]; rfl
theorem fD_len (f : List (List Int)) : lenD (fD f) = .ok (.int f.length) := by unfold fD; rw [s_lenL, List.length_map]
theorem fD_items (f : List (List Int)) : itemsD (fD f) = .ok (f.map cD) := id rfl
theorem litOk_ne {v : Nat} {c : List Int} (h : InR v c) : 0 ∉ c := fun z => by have := (h 0 z).1; simp at this
theorem find_key {t : Tb} (hd : (t.map (·.1)).Nodup) {e : Int × List Int} (he : e ∈ t) : tget t e.1 = some e.2 := by
  induction t with
  | nil => cases he
  | cons p t ih =>
    rw [List.map_cons, List.nodup_cons] at hd
    unfold tget
    rw [List.find?_cons]
    rcases List.mem_cons.mp he with z | z
    · subst z; simp
    · have : p.1 ≠ e.1 := fun q => hd.1 (q ▸ List.mem_map.mpr ⟨e, z, rfl⟩)
      simp only [this, decide_false]
      exact ih hd.2 z
theorem neDE_self {t : Tb} (hd : (t.map (·.1)).Nodup) : neDE (.dct (tE t)) (.dct (tE t)) = .ok (.bl false) := by
  unfold neDE
  simp only
  rw [if_pos]
  refine ⟨by simp, ?_⟩
  rw [List.all_eq_true]
  intro p hp
  obtain ⟨e, he, rfl⟩ := List.mem_map.mp hp
  have hk : keyD (tE t) e.1 = some (cD e.2) := by rw [keyD_tE, find_key hd he]; rfl
  unfold likeE
  simp only [hk, ok_cD, eqv_self (ok_cD e.2), Bool.and_self]
theorem numT_nodup {g : Nat → Int} (hg : ∀ i j, g i = g j → i = j) (f : List (List Int)) : ((numT g f).map (·.1)).Nodup := by
  unfold numT
  rw [List.map_map]
  rw [List.nodup_iff_pairwise_ne, List.pairwise_map]
  exact (List.nodup_iff_pairwise_ne.mp List.nodup_range).imp fun h e => h (hg _ _ e)
end DL
/-! Hints found by rounds: no program in sight. -/
namespace DL
open PySem L2

/-- one round over the numbers; left: ended -/
def hround (t : Tb) : List Int → List Int → List Int → List Int ⊕ (List Int × List Int)
  | [], L, H => .inr (L, H)
  | n :: ks, L, H => match openL L ((tget t n).getD []) with
    | [] => .inl (H ++ [n])
    | x :: r => if r = [] ∧ x ∉ L then hround t ks (L ++ [x]) (H ++ [n]) else hround t ks L H
def hrounds (t : Tb) (ks : List Int) : Nat → List Int → List Int → List Int
  | 0, _, H => H
  | n + 1, L, H => match hround t ks L H with
    | .inl r => r
    | .inr (L', H') => hrounds t ks n L' H'
def hintsL (t : Tb) (L : List Int) : List Int := hrounds t (srt (t.map (·.1))) 9 L []
theorem hround_len (t : Tb) : ∀ (ks L H : List Int), match hround t ks L H with
    | .inl r => r.length ≤ H.length + ks.length
    | .inr (L', H') => H'.length ≤ H.length + ks.length ∧ L'.length ≤ L.length + ks.length
  | [], L, H => ⟨Nat.le_refl _, Nat.le_refl _⟩
  | n :: ks, L, H => by
    unfold hround
    cases h : openL L ((tget t n).getD []) with
    | nil => simp
    | cons x r =>
      simp only
      by_cases cc : r = [] ∧ x ∉ L
      · rw [if_pos cc]
        have := hround_len t ks (L ++ [x]) (H ++ [n])
        cases h2 : hround t ks (L ++ [x]) (H ++ [n]) with
        | inl q => rw [h2] at this; simp at this ⊢; omega
        | inr q => obtain ⟨a, b⟩ := q; rw [h2] at this; simp at this ⊢; omega
      · rw [if_neg cc]
        have := hround_len t ks L H
        cases h2 : hround t ks L H with
        | inl q => rw [h2] at this; simp at this ⊢; omega
        | inr q => obtain ⟨a, b⟩ := q; rw [h2] at this; simp at this ⊢; omega
theorem hrounds_len (t : Tb) (ks : List Int) : ∀ (n : Nat) (L H : List Int), (hrounds t ks n L H).length ≤ H.length + n * ks.length
  | 0, L, H => by simp [hrounds]
  | n + 1, L, H => by
    unfold hrounds
    have := hround_len t ks L H
    cases h2 : hround t ks L H with
    | inl q => rw [h2] at this; simp only at this ⊢; rw [Nat.add_mul]; omega
    | inr q =>
      obtain ⟨a, b⟩ := q
      rw [h2] at this
      simp only at this ⊢
      have ih := hrounds_len t ks n a b
      rw [Nat.add_mul]; omega
theorem hintsL_len (t : Tb) (L : List Int) : (hintsL t L).length ≤ 9 * t.length := by
  have := hrounds_len t (srt (t.map (·.1))) 9 L []
  rw [(srt_perm _).length_eq, List.length_map] at this
  unfold hintsL
  simpa using this
end DL
/-! Steps, tables that grow, keepers: no program in sight. -/
namespace DL
open PySem L2

/-! ### tables changed -/
def tput (t : Tb) (k : Int) (c : List Int) : Tb := if (t.any fun e => decide (e.1 = k)) = true then t.map (fun e => if e.1 = k then (e.1, c) else e) else t ++ [(k, c)]
def tdrop (t : Tb) (k : Int) : Tb := t.filter fun e => decide (e.1 ≠ k)
theorem putD_tE (t : Tb) (k : Int) (c : List Int) : putD (tE t) k (cD c) = tE (tput t k c) := by
  unfold putD tput tE
  rw [List.any_map]
  have e : (t.any ((fun e : Int × D => decide (e.1 = k)) ∘ fun e : Int × List Int => (e.1, cD e.2))) = t.any fun e => decide (e.1 = k) := rfl
  rw [e]
  split
  · rw [List.map_map, List.map_map]
    refine List.map_congr_left fun p _ => ?_
    simp only [Function.comp_def]
    split <;> rfl
  · rw [List.map_append]; rfl
theorem dropD_tE (t : Tb) (k : Int) : dropD (tE t) k = tE (tdrop t k) := by
  unfold dropD tdrop tE
  rw [List.filter_map]
  rfl
theorem tput_len (t : Tb) (k : Int) (c : List Int) : (tput t k c).length ≤ t.length + 1 := by
  unfold tput
  split <;> simp
theorem tdrop_len (t : Tb) (k : Int) : (tdrop t k).length ≤ t.length := List.length_filter_le _ _
theorem tput_mem {t : Tb} {k : Int} {c : List Int} {e : Int × List Int} (h : e ∈ tput t k c) : e ∈ t ∨ e = (k, c) := by
  unfold tput at h
  split at h
  · obtain ⟨p, hp, z⟩ := List.mem_map.mp h
    split at z
    · rename_i q; subst z; right; rw [q]
    · subst z; exact .inl hp
  · rcases List.mem_append.mp h with z | z
    · exact .inl z
    · rw [List.mem_singleton] at z; exact .inr z
theorem tdrop_mem {t : Tb} {k : Int} {e : Int × List Int} (h : e ∈ tdrop t k) : e ∈ t := (List.mem_filter.mp h).1
theorem TbOk.put {t : Tb} (h : TbOk t) {k : Int} {c : List Int} (h0 : 0 ∉ c) (hc : c.length ≤ 1000) (hn : t.length < 1000) : TbOk (tput t k c) := by
  refine ⟨fun e he => ?_, fun e he => ?_, by have := tput_len t k c; omega⟩
  · rcases tput_mem he with z | z
    · exact h.z e z
    · subst z; exact h0
  · rcases tput_mem he with z | z
    · exact h.l e z
    · subst z; exact hc
theorem TbOk.drop {t : Tb} (h : TbOk t) (k : Int) : TbOk (tdrop t k) := ⟨fun e he => h.z e (tdrop_mem he), fun e he => h.l e (tdrop_mem he), Nat.le_trans (tdrop_len t k) h.n⟩
theorem TbOk.drops {ns : List Int} : ∀ {t : Tb}, TbOk t → TbOk (ns.foldl tdrop t) := by
  induction ns with
  | nil => intro t h; exact h
  | cons n ns ih => intro t h; exact ih (h.drop n)
theorem drops_len {ns : List Int} : ∀ {t : Tb}, (ns.foldl tdrop t).length ≤ t.length := by
  induction ns with
  | nil => intro t; exact Nat.le_refl _
  | cons n ns ih => intro t; exact Nat.le_trans ih (tdrop_len t n)
/-! ### steps -/
inductive Stp where
  | drop (ns : List Int) | add (n : Int) (c hs : List Int)
def stD : Stp → D
  | .drop ns => .tup [.str "drop", cD ns]
  | .add n c hs => .tup [.str "add", .int n, cD c, cD hs]
structure StpOk (s : Stp) : Prop where
  drop : ∀ ns, s = .drop ns → ns.length ≤ 1000
  add : ∀ n c hs, s = .add n c hs → 0 ∉ c ∧ c.length ≤ 1000 ∧ hs.length ≤ 2000
/-- a clause of so many variables -/
def inV (v : Int) (c : List Int) : Bool := c.all fun l => decide ((l.natAbs : Int) ≤ v)
/-! ### keepers -/
structure Kst where
  v : Int
  t : Tb
  top : Int
  tk : Nat
  r : Bool
def Kst.fits (k : Kst) (n : Int) (c hs : List Int) : Bool := decide (k.top < n) && (inV k.v c && followsL k.t c hs)
def Kst.grow (k : Kst) (n : Int) (c : List Int) : Kst := { k with t := tput k.t n c, top := n, r := k.r || c.isEmpty }
def Kst.take (k : Kst) (s : Stp) : Option Kst :=
  if k.r = true then some { k with tk := k.tk + 1 } else match s with
  | .drop ns => some { k with t := ns.foldl tdrop k.t, tk := k.tk + 1 }
  | .add n c hs => if k.fits n c hs = true then some { k.grow n c with tk := k.tk + 1 } else none
def Kst.run (k : Kst) : List Stp → Except Nat Kst
  | [] => .ok k
  | s :: r => match k.take s with
    | none => .error k.tk
    | some k' => k'.run r
theorem Kst.run_app (k : Kst) : ∀ (a b : List Stp), k.run (a ++ b) = match k.run a with
    | .ok k' => k'.run b
    | .error e => .error e := by
  intro a
  induction a generalizing k with
  | nil => intro b; rfl
  | cons s a ih =>
    intro b
    show (match k.take s with | none => Except.error k.tk | some k' => k'.run (a ++ b)) = match (match k.take s with | none => Except.error k.tk | some k' => k'.run a) with | .ok k' => k'.run b | .error e => .error e
    cases k.take s with
    | none => rfl
    | some k' => exact ih k' b
/-- the law's play: the place of a step that is not right, or -1; the empty clause added -/
def playL (v : Int) : Tb → Int → Nat → List Stp → Int × Bool
  | _, _, _, [] => (-1, false)
  | t, top, k, .drop ns :: r => playL v (ns.foldl tdrop t) top (k + 1) r
  | t, top, k, .add n c hs :: r => if (decide (top < n) && (inV v c && followsL t c hs)) = true then (if c = [] then (-1, true) else playL v (tput t n c) n (k + 1) r) else ((k : Int), false)
theorem run_ref {k : Kst} (h : k.r = true) : ∀ s : List Stp, k.run s = .ok { k with tk := k.tk + s.length }
  | [] => rfl
  | s :: r => by
    have e : k.take s = some { k with tk := k.tk + 1 } := if_pos h
    show (match k.take s with | none => Except.error k.tk | some k' => k'.run r) = _
    rw [e]
    simp only
    rw [run_ref (k := { k with tk := k.tk + 1 }) h r]
    have e2 : k.tk + 1 + r.length = k.tk + (s :: r).length := by simp; omega
    simp only [e2]
/-- the play is a keeper's run -/
theorem play_run {v : Int} : ∀ (s : List Stp) (t : Tb) (top : Int) (k : Nat), playL v t top k s = match (Kst.mk v t top k false).run s with
    | .ok k' => (-1, k'.r)
    | .error e => ((e : Int), false)
  | [], t, top, k => rfl
  | .drop ns :: r, t, top, k => by
    show playL v (ns.foldl tdrop t) top (k + 1) r = _
    rw [play_run r]
    rfl
  | .add n c hs :: r, t, top, k => by
    unfold playL
    have e : (Kst.mk v t top k false).take (.add n c hs) = if (decide (top < n) && (inV v c && followsL t c hs)) = true then some ⟨v, tput t n c, n, k + 1, c.isEmpty⟩ else none := by
      unfold Kst.take Kst.fits Kst.grow
      simp
    show _ = (match (match (Kst.mk v t top k false).take (.add n c hs) with | none => Except.error k | some k' => k'.run r) with | .ok k' => (-1, k'.r) | .error e => ((e : Int), false))
    rw [e]
    by_cases z : (decide (top < n) && (inV v c && followsL t c hs)) = true
    · rw [if_pos z, if_pos z]
      simp only
      by_cases z2 : c = []
      · subst z2
        rw [if_pos rfl, run_ref rfl]
        rfl
      · have : c.isEmpty = false := by cases c <;> first | rfl | exact absurd rfl z2
        rw [if_neg z2, this, play_run r]
    · rw [if_neg z, if_neg z]
def succN (k : Nat) : Int := (k : Int) + 1
theorem succN_inj (i j : Nat) (h : succN i = succN j) : i = j := by unfold succN at h; omega
theorem numT_at {g : Nat → Int} {f : List (List Int)} {c : List Int} (h : c ∈ f) : ∃ e ∈ numT g f, e.2 = c := by
  obtain ⟨k, hk, e⟩ := List.getElem_of_mem h
  refine ⟨(g k, f.getD k []), List.mem_map.mpr ⟨k, List.mem_range.mpr hk, rfl⟩, ?_⟩
  simp only [List.getD_eq_getElem?_getD, List.getElem?_eq_getElem hk, Option.getD_some, e]
theorem tt_ft {g : Nat → Int} {f : List (List Int)} {σ : Asg} : tt σ (numT g f) ↔ ft σ f = true := by
  unfold ft
  rw [List.all_eq_true]
  constructor
  · intro h c hc
    obtain ⟨e, he, rfl⟩ := numT_at (g := g) hc
    exact h e he
  · intro h e he
    obtain ⟨k, _, _, hm⟩ := numT_mem he
    exact h _ hm
/-- a new keeper -/
def kst0 (v : Int) (f : List (List Int)) : Kst := ⟨v, numT succN f, f.length, 0, false⟩
/-- a keeper as a thing's fields -/
def kp (k : Kst) : List (Str × Fl) := [("variables", .fz (.int k.v)), ("table", .od (tE k.t)), ("top", .fz (.int k.top)), ("taken", .fz (.int (k.tk : Int))), ("refuted", .fz (.bl k.r))]
end DL
/-! Fields by their names. -/
namespace DL
open PySem L2

@[simp] theorem ne_variables_table : (("variables" : Str) = "table") = False := eq_false (by decide +kernel)
@[simp] theorem ne_variables_top : (("variables" : Str) = "top") = False := eq_false (by decide +kernel)
@[simp] theorem ne_variables_taken : (("variables" : Str) = "taken") = False := eq_false (by decide +kernel)
@[simp] theorem ne_variables_refuted : (("variables" : Str) = "refuted") = False := eq_false (by decide +kernel)
@[simp] theorem ne_variables_take : (("variables" : Str) = "take") = False := eq_false (by decide +kernel)
@[simp] theorem ne_variables_grow : (("variables" : Str) = "grow") = False := eq_false (by decide +kernel)
@[simp] theorem ne_table_variables : (("table" : Str) = "variables") = False := eq_false (by decide +kernel)
@[simp] theorem ne_table_top : (("table" : Str) = "top") = False := eq_false (by decide +kernel)
@[simp] theorem ne_table_taken : (("table" : Str) = "taken") = False := eq_false (by decide +kernel)
@[simp] theorem ne_table_refuted : (("table" : Str) = "refuted") = False := eq_false (by decide +kernel)
@[simp] theorem ne_table_take : (("table" : Str) = "take") = False := eq_false (by decide +kernel)
@[simp] theorem ne_table_grow : (("table" : Str) = "grow") = False := eq_false (by decide +kernel)
@[simp] theorem ne_top_variables : (("top" : Str) = "variables") = False := eq_false (by decide +kernel)
@[simp] theorem ne_top_table : (("top" : Str) = "table") = False := eq_false (by decide +kernel)
@[simp] theorem ne_top_taken : (("top" : Str) = "taken") = False := eq_false (by decide +kernel)
@[simp] theorem ne_top_refuted : (("top" : Str) = "refuted") = False := eq_false (by decide +kernel)
@[simp] theorem ne_top_take : (("top" : Str) = "take") = False := eq_false (by decide +kernel)
@[simp] theorem ne_top_grow : (("top" : Str) = "grow") = False := eq_false (by decide +kernel)
@[simp] theorem ne_taken_variables : (("taken" : Str) = "variables") = False := eq_false (by decide +kernel)
@[simp] theorem ne_taken_table : (("taken" : Str) = "table") = False := eq_false (by decide +kernel)
@[simp] theorem ne_taken_top : (("taken" : Str) = "top") = False := eq_false (by decide +kernel)
@[simp] theorem ne_taken_refuted : (("taken" : Str) = "refuted") = False := eq_false (by decide +kernel)
@[simp] theorem ne_taken_take : (("taken" : Str) = "take") = False := eq_false (by decide +kernel)
@[simp] theorem ne_taken_grow : (("taken" : Str) = "grow") = False := eq_false (by decide +kernel)
@[simp] theorem ne_refuted_variables : (("refuted" : Str) = "variables") = False := eq_false (by decide +kernel)
@[simp] theorem ne_refuted_table : (("refuted" : Str) = "table") = False := eq_false (by decide +kernel)
@[simp] theorem ne_refuted_top : (("refuted" : Str) = "top") = False := eq_false (by decide +kernel)
@[simp] theorem ne_refuted_taken : (("refuted" : Str) = "taken") = False := eq_false (by decide +kernel)
@[simp] theorem ne_refuted_take : (("refuted" : Str) = "take") = False := eq_false (by decide +kernel)
@[simp] theorem ne_refuted_grow : (("refuted" : Str) = "grow") = False := eq_false (by decide +kernel)
@[simp] theorem ne_variables_rows : (("variables" : Str) = "rows") = False := eq_false (by decide +kernel)
@[simp] theorem ne_variables_steps : (("variables" : Str) = "steps") = False := eq_false (by decide +kernel)
@[simp] theorem ne_variables_model : (("variables" : Str) = "model") = False := eq_false (by decide +kernel)
@[simp] theorem ne_variables_learnt : (("variables" : Str) = "learnt") = False := eq_false (by decide +kernel)
@[simp] theorem ne_variables_spread : (("variables" : Str) = "spread") = False := eq_false (by decide +kernel)
@[simp] theorem ne_variables_closed : (("variables" : Str) = "closed") = False := eq_false (by decide +kernel)
@[simp] theorem ne_rows_variables : (("rows" : Str) = "variables") = False := eq_false (by decide +kernel)
@[simp] theorem ne_rows_steps : (("rows" : Str) = "steps") = False := eq_false (by decide +kernel)
@[simp] theorem ne_rows_model : (("rows" : Str) = "model") = False := eq_false (by decide +kernel)
@[simp] theorem ne_rows_learnt : (("rows" : Str) = "learnt") = False := eq_false (by decide +kernel)
@[simp] theorem ne_rows_spread : (("rows" : Str) = "spread") = False := eq_false (by decide +kernel)
@[simp] theorem ne_rows_closed : (("rows" : Str) = "closed") = False := eq_false (by decide +kernel)
@[simp] theorem ne_steps_variables : (("steps" : Str) = "variables") = False := eq_false (by decide +kernel)
@[simp] theorem ne_steps_rows : (("steps" : Str) = "rows") = False := eq_false (by decide +kernel)
@[simp] theorem ne_steps_model : (("steps" : Str) = "model") = False := eq_false (by decide +kernel)
@[simp] theorem ne_steps_learnt : (("steps" : Str) = "learnt") = False := eq_false (by decide +kernel)
@[simp] theorem ne_steps_spread : (("steps" : Str) = "spread") = False := eq_false (by decide +kernel)
@[simp] theorem ne_steps_closed : (("steps" : Str) = "closed") = False := eq_false (by decide +kernel)
@[simp] theorem ne_model_variables : (("model" : Str) = "variables") = False := eq_false (by decide +kernel)
@[simp] theorem ne_model_rows : (("model" : Str) = "rows") = False := eq_false (by decide +kernel)
@[simp] theorem ne_model_steps : (("model" : Str) = "steps") = False := eq_false (by decide +kernel)
@[simp] theorem ne_model_learnt : (("model" : Str) = "learnt") = False := eq_false (by decide +kernel)
@[simp] theorem ne_model_spread : (("model" : Str) = "spread") = False := eq_false (by decide +kernel)
@[simp] theorem ne_model_closed : (("model" : Str) = "closed") = False := eq_false (by decide +kernel)
@[simp] theorem ne_variables_clauses : (("variables" : Str) = "clauses") = False := eq_false (by decide +kernel)
@[simp] theorem ne_variables_clause : (("variables" : Str) = "clause") = False := eq_false (by decide +kernel)
@[simp] theorem ne_variables_step : (("variables" : Str) = "step") = False := eq_false (by decide +kernel)
@[simp] theorem ne_variables_solve : (("variables" : Str) = "solve") = False := eq_false (by decide +kernel)
@[simp] theorem ne_variables_answer : (("variables" : Str) = "answer") = False := eq_false (by decide +kernel)
@[simp] theorem ne_variables_holds : (("variables" : Str) = "holds") = False := eq_false (by decide +kernel)
@[simp] theorem ne_clauses_variables : (("clauses" : Str) = "variables") = False := eq_false (by decide +kernel)
@[simp] theorem ne_clauses_steps : (("clauses" : Str) = "steps") = False := eq_false (by decide +kernel)
@[simp] theorem ne_clauses_clause : (("clauses" : Str) = "clause") = False := eq_false (by decide +kernel)
@[simp] theorem ne_clauses_step : (("clauses" : Str) = "step") = False := eq_false (by decide +kernel)
@[simp] theorem ne_clauses_solve : (("clauses" : Str) = "solve") = False := eq_false (by decide +kernel)
@[simp] theorem ne_clauses_answer : (("clauses" : Str) = "answer") = False := eq_false (by decide +kernel)
@[simp] theorem ne_clauses_holds : (("clauses" : Str) = "holds") = False := eq_false (by decide +kernel)
@[simp] theorem ne_steps_clauses : (("steps" : Str) = "clauses") = False := eq_false (by decide +kernel)
@[simp] theorem ne_steps_clause : (("steps" : Str) = "clause") = False := eq_false (by decide +kernel)
@[simp] theorem ne_steps_step : (("steps" : Str) = "step") = False := eq_false (by decide +kernel)
@[simp] theorem ne_steps_solve : (("steps" : Str) = "solve") = False := eq_false (by decide +kernel)
@[simp] theorem ne_steps_answer : (("steps" : Str) = "answer") = False := eq_false (by decide +kernel)
@[simp] theorem ne_steps_holds : (("steps" : Str) = "holds") = False := eq_false (by decide +kernel)
theorem s_getFV0 {j : Option Nat} {c : Nat} {f : Str} {fs : List (Str × Fl)} {S : List Sl} {l : Fl} (h : getL f fs = some l) : getFV 0 c f (.ob j c fs :: S) = .ok (flD l) := by
  show (if c = c then (match getL f fs with | some l => R.ok (flD l) | none => .bad) else .bad) = _
  rw [if_pos rfl, h]
theorem s_getFF0 {j : Option Nat} {c : Nat} {f : Str} {fs : List (Str × Fl)} {S : List Sl} {d : D} (h : getL f fs = some (.fz d)) : getFF 0 c f (.ob j c fs :: S) = .ok d := by
  show (if c = c then (match getL f fs with | some (.fz d) => R.ok d | _ => .bad) else .bad) = _
  rw [if_pos rfl, h]
@[simp] theorem s_getFVs (n c : Nat) (f : Str) (s : Sl) (S : List Sl) : getFV (n + 1) c f (s :: S) = getFV n c f S := id rfl
@[simp] theorem s_getFFs (n c : Nat) (f : Str) (s : Sl) (S : List Sl) : getFF (n + 1) c f (s :: S) = getFF n c f S := id rfl
section
variable {i c : Nat} {f : Str} {j : Option Nat} {fs : List (Str × Fl)} {S : List Sl}
theorem mFSet_eq {m : List Sl → R D} {d : D} (h : S[i]? = some (.ob j c fs)) (hl : fs.length < 1000) (hm : m S = .ok d) : mFSet i c f m S = .nx (S.set i (.ob j c (putL f (.fz d) fs))) := by
  unfold mFSet fset
  rw [hm, toS_ok, h]
  simp only [hl, and_self, if_true]
theorem mFSetN_eq {m : List Sl → R (List D)} {d : List D} (h : S[i]? = some (.ob j c fs)) (hl : fs.length < 1000) (hm : m S = .ok d) : mFSetN i c f m S = .nx (S.set i (.ob j c (putL f (.ol d) fs))) := by
  unfold mFSetN fset
  rw [hm, toSL_ok, h]
  simp only [hl, and_self, if_true]
theorem mFSetND_eq {m : List Sl → R (List (Int × D))} {d : List (Int × D)} (h : S[i]? = some (.ob j c fs)) (hl : fs.length < 1000) (hm : m S = .ok d) : mFSetND i c f m S = .nx (S.set i (.ob j c (putL f (.od d) fs))) := by
  unfold mFSetND fset
  rw [hm, toSL_ok, h]
  simp only [hl, and_self, if_true]
theorem mFApp_eq {m : List Sl → R D} {d : D} {ds : List D} (h : S[i]? = some (.ob j c fs)) (hf : getL f fs = some (.ol ds)) (hl : ds.length < sizeLine) (hm : m S = .ok d) : mFApp i c f m S = .nx (S.set i (.ob j c (putL f (.ol (ds ++ [d])) fs))) := by
  unfold mFApp
  rw [h]
  simp only [if_true, hf, hm, toS_ok, if_pos hl]
theorem mFPut_eq {mk m : List Sl → R D} {d : D} {k : Int} {es : List (Int × D)} (h : S[i]? = some (.ob j c fs)) (hf : getL f fs = some (.od es)) (hl : es.length < sizeLine) (hk : mk S = .ok (.int k)) (hm : m S = .ok d) : mFPut i c f mk m S = .nx (S.set i (.ob j c (putL f (.od (putD es k d)) fs))) := by
  unfold mFPut
  rw [h]
  simp only [if_true, hf, hm, hk, toS_ok, if_pos hl]
theorem mFPop_eq {mk : List Sl → R D} {k : Int} {es : List (Int × D)} (h : S[i]? = some (.ob j c fs)) (hf : getL f fs = some (.od es)) (hk : mk S = .ok (.int k)) : mFPop i c f mk S = .nx (S.set i (.ob j c (putL f (.od (dropD es k)) fs))) := by
  unfold mFPop
  rw [h]
  simp only [if_true, hf, hk, toS_ok]
theorem mMeth_ok {mn : Str} {g : List Sl → RS} {ma : List Sl → R (List D)} {ds : List D} {d : D} {Sc : List Sl} {fs' : List (Str × Fl)} (h : S[i]? = some (.ob j c fs)) (hn : getL mn fs = none) (hm : ma S = .ok ds) (hg : g (.ob (some 0) c fs :: ds.map Sl.fz) = .ok d (.ob (some 0) c fs' :: Sc)) : mMeth i c mn g ma S = .ok d (S.set i (.ob j c fs')) := by
  unfold mMeth
  rw [h]
  simp only [hn, and_self, if_true]
  exact mCallM_eq (d1 := []) (d2 := ds) (s := .ob j c fs) (t := .ob (some 0) c fs) (t' := .ob (some 0) c fs') (s' := .ob j c fs') (by simp only [hm, R.bind_ok]) h rfl hg rfl rfl
theorem mMeth_exc {mn : Str} {g : List Sl → RS} {ma : List Sl → R (List D)} {ds : List D} {e : Exn} {Sc : List Sl} {fs' : List (Str × Fl)} (h : S[i]? = some (.ob j c fs)) (hn : getL mn fs = none) (hm : ma S = .ok ds) (hg : g (.ob (some 0) c fs :: ds.map Sl.fz) = .exc e (.ob (some 0) c fs' :: Sc)) : mMeth i c mn g ma S = .exc e (S.set i (.ob j c fs')) := by
  unfold mMeth
  rw [h]
  simp only [hn, and_self, if_true]
  unfold mCallM
  have hg' : g (([] : List D).map Sl.fz ++ Sl.ob (some 0) c fs :: ds.map Sl.fz) = .exc e (.ob (some 0) c fs' :: Sc) := hg
  simp only [hm, R.bind_ok, h, lend1, List.length_nil, hg', List.getElem?_cons_zero, back1]
theorem mMk_eq {g : List Sl → RS} {ma : List Sl → R (List D)} {ds : List D} {Sc : List Sl} (hm : ma S = .ok ds) (hg : g (.ob (some 0) c [] :: ds.map Sl.fz) = .ok .non (.ob (some 0) c fs :: Sc)) : mMk i c g ma S = .nx (S.set i (.ob none c fs)) := by
  unfold mMk
  rw [hm, toSL_ok, hg]
  unfold mkR
  simp only [List.getElem?_cons_zero, if_true]
end
@[simp] theorem s_mDropM (m : List Sl → RS) (S : List Sl) : mDropM m S = match m S with
  | .ok _ S' => .nx S'
  | .exc e S' => .ex e S'
  | .bad => .bad := id rfl
@[simp] theorem s_mRetM (m : List Sl → RS) (S : List Sl) : mRetM m S = match m S with
  | .ok d S' => .rs d S'
  | .exc e S' => .ex e S'
  | .bad => .bad := id rfl
@[simp] theorem s_mSetM (i : Nat) (m : List Sl → RS) (S : List Sl) : mSetM i m S = match m S with
  | .ok d S' => .nx (S'.set i (.fz d))
  | .exc e S' => .ex e S'
  | .bad => .bad := id rfl
/-! ### steps as data -/
theorem st_d0 (ns : List Int) : ixD (stD (.drop ns)) (.int 0) = .ok (.str "drop") := by
  have : atI [D.str "drop", cD ns] 0 = some (.str "drop") := atI_nat (j := 0) rfl
  show optD (atI [D.str "drop", cD ns] 0) = _
  rw [this]; rfl
theorem st_d1 (ns : List Int) : ixD (stD (.drop ns)) (.int 1) = .ok (cD ns) := by
  have : atI [D.str "drop", cD ns] 1 = some (cD ns) := atI_nat (j := 1) rfl
  show optD (atI [D.str "drop", cD ns] 1) = _
  rw [this]; rfl
section
variable (n : Int) (c hs : List Int)
theorem st_a0 : ixD (stD (.add n c hs)) (.int 0) = .ok (.str "add") := by
  have : atI [D.str "add", .int n, cD c, cD hs] 0 = some (.str "add") := atI_nat (j := 0) rfl
  show optD (atI [D.str "add", .int n, cD c, cD hs] 0) = _
  rw [this]; rfl
theorem st_a1 : ixD (stD (.add n c hs)) (.int 1) = .ok (.int n) := by
  have : atI [D.str "add", .int n, cD c, cD hs] 1 = some (.int n) := atI_nat (j := 1) rfl
  show optD (atI [D.str "add", .int n, cD c, cD hs] 1) = _
  rw [this]; rfl
theorem st_a2 : ixD (stD (.add n c hs)) (.int 2) = .ok (cD c) := by
  have : atI [D.str "add", .int n, cD c, cD hs] 2 = some (cD c) := atI_nat (j := 2) rfl
  show optD (atI [D.str "add", .int n, cD c, cD hs] 2) = _
  rw [this]; rfl
theorem st_a3 : ixD (stD (.add n c hs)) (.int 3) = .ok (cD hs) := by
  have : atI [D.str "add", .int n, cD c, cD hs] 3 = some (cD hs) := atI_nat (j := 3) rfl
  show optD (atI [D.str "add", .int n, cD c, cD hs] 3) = _
  rw [this]; rfl
end
theorem cD_items (c : List Int) : itemsD (cD c) = .ok (c.map D.int) := id rfl
theorem cD_len (c : List Int) : lenD (cD c) = .ok (.int c.length) := by unfold cD; rw [s_lenT, List.length_map]
theorem cD_tr (c : List Int) : trD (cD c) = .ok (!c.isEmpty) := by cases c <;> rfl
theorem cD_lst (c : List Int) : lstD (cD c) = .ok (c.map D.int) := id rfl
theorem cD_tup (c : List Int) : tupD (cD c) = .ok (cD c) := id rfl
theorem ne_add_drop : (("add" : Str) = "drop") = False := eq_false (by decide +kernel)
/-! ### a keeper's fields -/
section
variable (k : Kst)
theorem kp_variables : getL "variables" (kp k) = some (.fz (.int k.v)) := by simp [getL, kp]
theorem kp_table : getL "table" (kp k) = some (.od (tE k.t)) := by simp [getL, kp]
theorem kp_top : getL "top" (kp k) = some (.fz (.int k.top)) := by simp [getL, kp]
theorem kp_taken : getL "taken" (kp k) = some (.fz (.int (k.tk : Int))) := by simp [getL, kp]
theorem kp_refuted : getL "refuted" (kp k) = some (.fz (.bl k.r)) := by simp [getL, kp]
theorem kp_take : getL "take" (kp k) = none := by simp [getL, kp]
theorem kp_grow : getL "grow" (kp k) = none := by simp [getL, kp]
theorem kp_put_table (t : Tb) : putL "table" (.od (tE t)) (kp k) = kp { k with t := t } := by simp [putL, kp]
theorem kp_put_top (n : Int) : putL "top" (.fz (.int n)) (kp k) = kp { k with top := n } := by simp [putL, kp]
theorem kp_put_taken (n : Nat) : putL "taken" (.fz (.int (n : Int))) (kp k) = kp { k with tk := n } := by simp [putL, kp]
theorem kp_put_refuted (b : Bool) : putL "refuted" (.fz (.bl b)) (kp k) = kp { k with r := b } := by simp [putL, kp]
theorem kp_len : (kp k).length < 1000 := by simp [kp]
variable (j : Option Nat) (S : List Sl)
@[simp] theorem k_variables : getFV 0 0 "variables" (.ob j 0 (kp k) :: S) = .ok (.int k.v) := s_getFV0 (kp_variables k)
@[simp] theorem k_table : getFV 0 0 "table" (.ob j 0 (kp k) :: S) = .ok (.dct (tE k.t)) := s_getFV0 (kp_table k)
@[simp] theorem k_top : getFV 0 0 "top" (.ob j 0 (kp k) :: S) = .ok (.int k.top) := s_getFV0 (kp_top k)
@[simp] theorem k_taken : getFV 0 0 "taken" (.ob j 0 (kp k) :: S) = .ok (.int (k.tk : Int)) := s_getFV0 (kp_taken k)
@[simp] theorem k_refuted : getFV 0 0 "refuted" (.ob j 0 (kp k) :: S) = .ok (.bl k.r) := s_getFV0 (kp_refuted k)
@[simp] theorem kf_refuted : getFF 0 0 "refuted" (.ob j 0 (kp k) :: S) = .ok (.bl k.r) := s_getFF0 (kp_refuted k)
end
end DL
/-! Steps whose clauses follow by hints that end them: no program in sight. -/
namespace DL
open PySem L2

theorem walkL_cons (t : Tb) (L : List Int) (h : Int) (hs : List Int) (u : Nat) : walkL t L (h :: hs) u = if h < 0 then (1, u, L) else
    match tget t h with
    | none => (0, u, L)
    | some c => match openL L c with
      | [] => (2, u + 1, L)
      | x :: r => if r ≠ [] ∨ x ∈ L then (0, u + 1, L) else walkL t (L ++ [x]) hs (u + 1) := by
  rw [walkL] <;> (
    split
    · rfl
    · cases tget t h with
      | none => rfl
      | some c =>
        simp only
        cases openL L c <;> rfl)
theorem walkL_app (t : Tb) : ∀ (H r L : List Int) (u : Nat), (∀ h ∈ H, 0 ≤ h) → (walkL t L H u).1 = 1 → walkL t L (H ++ r) u = walkL t (walkL t L H u).2.2 r (u + H.length) ∧ (walkL t L H u).2.1 = u + H.length
  | [], r, L, u, _, _ => ⟨rfl, rfl⟩
  | h :: H, r, L, u, hp, e => by
    have h0 : ¬ h < 0 := by have := hp h (List.mem_cons_self ..); omega
    rw [List.cons_append, walkL_cons t L h (H ++ r), walkL_cons t L h H]
    rw [walkL_cons] at e
    rw [if_neg h0] at e ⊢
    rw [if_neg h0]
    cases hg : tget t h with
    | none => rw [hg] at e; cases e
    | some c =>
      rw [hg] at e
      simp only at e ⊢
      cases hop : openL L c with
      | nil => rw [hop] at e; cases e
      | cons x s =>
        rw [hop] at e
        simp only at e ⊢
        by_cases cc : s ≠ [] ∨ x ∈ L
        · rw [if_pos cc] at e; cases e
        · rw [if_neg cc] at e ⊢
          rw [if_neg cc]
          have := walkL_app t H r (L ++ [x]) (u + 1) (fun q hq => hp q (List.mem_cons_of_mem _ hq)) e
          rw [List.length_cons, show u + (H.length + 1) = u + 1 + H.length from by omega]
          exact this
theorem walkL_one {t : Tb} {L c : List Int} {n : Int} {u : Nat} (hn : 0 ≤ n) (hg : tget t n = some c) : walkL t L [n] u = match openL L c with
    | [] => (2, u + 1, L)
    | x :: r => if r ≠ [] ∨ x ∈ L then (0, u + 1, L) else (1, u + 1, L ++ [x]) := by
  unfold walkL
  rw [if_neg (by omega), hg]
  simp only
  cases openL L c with
  | nil => rfl
  | cons x r => rfl
theorem tput_new {f : List (List Int)} {c : List Int} : tput (numT succN f) ((f.length : Int) + 1) c = numT succN (f ++ [c]) := by
  unfold tput
  rw [if_neg]
  · unfold numT
    rw [List.length_append, List.length_singleton, List.range_succ, List.map_append]
    congr 1
    · refine List.map_congr_left fun k hk => ?_
      have := List.mem_range.mp hk
      simp only [List.getD_eq_getElem?_getD, List.getElem?_append_left this]
    · simp [succN]
  · rw [List.any_eq_true]
    rintro ⟨e, he, hk⟩
    obtain ⟨k, h1, h2, _⟩ := numT_mem he
    have := of_decide_eq_true hk
    rw [h2] at this
    unfold succN at this
    omega
theorem numT_get {f : List (List Int)} {k : Nat} (h : k < f.length) : tget (numT succN f) ((k : Int) + 1) = some (f.getD k []) := by
  have := find_key (numT_nodup succN_inj f) (e := (succN k, f.getD k [])) (List.mem_map.mpr ⟨k, List.mem_range.mpr h, rfl⟩)
  exact this
theorem numT_none {f : List (List Int)} {n : Int} (h : n ≤ 0 ∨ (f.length : Int) < n) : tget (numT succN f) n = none := by
  cases e : tget (numT succN f) n with
  | none => rfl
  | some c =>
    obtain ⟨k, h1, h2, _⟩ := numT_mem (tget_mem e)
    have h2 : n = succN k := h2
    unfold succN at h2
    omega
theorem numT_some {f : List (List Int)} {n : Int} {c : List Int} (h : tget (numT succN f) n = some c) : ∃ k, k < f.length ∧ n = (k : Int) + 1 ∧ c = f.getD k [] := by
  obtain ⟨k, h1, h2, _⟩ := numT_mem (tget_mem h)
  have h2 : n = (k : Int) + 1 := h2
  refine ⟨k, h1, h2, ?_⟩
  rw [h2, numT_get h1] at h
  exact (Option.some.inj h).symm
/-- clauses, each by hints that end it -/
inductive UCh (v : Nat) (f : List (List Int)) : List (List Int × List Int) → Prop
  | nil : UCh v f []
  | snoc {cs : List (List Int × List Int)} {c hs : List Int} : UCh v f cs → InR v c → bothL c = false → c.length ≤ 1000 → (∀ h ∈ hs, 0 < h) → hs.length ≤ 2000 → (walkL (numT succN (f ++ cs.map (·.1))) (c.map fun l => -l) hs 0).1 = 2 → UCh v f (cs ++ [(c, hs)])
/-- their steps: numbers from n on -/
def uStep (n : Nat) (p : List Int × List Int) : Stp := .add ((n : Int) + 1) p.1 p.2
def uStps : Nat → List (List Int × List Int) → List Stp
  | _, [] => []
  | n, p :: cs => uStep n p :: uStps (n + 1) cs
theorem uStps_app : ∀ (n : Nat) (a b : List (List Int × List Int)), uStps n (a ++ b) = uStps n a ++ uStps (n + a.length) b
  | n, [], b => by simp [uStps]
  | n, p :: a, b => by
    show uStep n p :: uStps (n + 1) (a ++ b) = uStep n p :: (uStps (n + 1) a ++ _)
    rw [uStps_app (n + 1) a b]
    simp only [List.length_cons]
    rw [show n + 1 + a.length = n + (a.length + 1) from by omega]
theorem uStps_len : ∀ (n : Nat) (a : List (List Int × List Int)), (uStps n a).length = a.length
  | n, [] => rfl
  | n, p :: a => by show (uStps (n + 1) a).length + 1 = a.length + 1; rw [uStps_len (n + 1) a]
theorem uStps_mem {n : Nat} {a : List (List Int × List Int)} {s : Stp} (h : s ∈ uStps n a) : ∃ k p, p ∈ a ∧ s = uStep k p := by
  induction a generalizing n with
  | nil => cases h
  | cons p a ih =>
    rcases List.mem_cons.mp h with z | z
    · exact ⟨n, p, List.mem_cons_self .., z⟩
    · obtain ⟨k, q, hq, e⟩ := ih z
      exact ⟨k, q, List.mem_cons_of_mem _ hq, e⟩
theorem UCh.props {v : Nat} {f : List (List Int)} {cs : List (List Int × List Int)} (h : UCh v f cs) : ∀ p ∈ cs, InR v p.1 ∧ bothL p.1 = false ∧ p.1.length ≤ 1000 ∧ (∀ h ∈ p.2, 0 < h) ∧ p.2.length ≤ 2000 := by
  induction h with
  | nil => intro p hp; cases hp
  | snoc _ h1 h2 h3 h4 h5 _ ih =>
    intro p hp
    rcases List.mem_append.mp hp with z | z
    · exact ih p z
    · rw [List.mem_singleton] at z; subst z; exact ⟨h1, h2, h3, h4, h5⟩
theorem inV_of {v : Nat} {c : List Int} (h : InR v c) : inV (v : Int) c = true := by
  unfold inV
  rw [List.all_eq_true]
  intro l hl
  have := (h l hl).2
  exact decide_eq_true (by omega)
theorem follows_of {t : Tb} {c hs : List Int} (h : (walkL t (c.map fun l => -l) hs 0).1 = 2) : followsL t c hs = true := by
  unfold followsL
  split
  · rfl
  · simp only [h, if_true]
theorem UCh.stp {v : Nat} {f : List (List Int)} {cs : List (List Int × List Int)} (h : UCh v f cs) (n : Nat) : ∀ s ∈ uStps n cs, StpOk s := by
  intro s hs
  obtain ⟨k, p, hp, rfl⟩ := uStps_mem hs
  obtain ⟨h1, h2, h3, h4, h5⟩ := h.props p hp
  refine ⟨fun ns e => (by cases e), fun n c hs e => ?_⟩
  cases e
  exact ⟨litOk_ne h1, h3, h5⟩
theorem Kst.run_one (k : Kst) (s : Stp) : k.run [s] = match k.take s with
    | none => .error k.tk
    | some k' => .ok k' := by
  show (match k.take s with | none => Except.error k.tk | some k' => k'.run []) = _
  cases k.take s <;> rfl
/-- a keeper takes them all -/
theorem UCh.run {v : Nat} {f : List (List Int)} {cs : List (List Int × List Int)} (h : UCh v f cs) (hn : ∀ p ∈ cs, p.1 ≠ []) : (kst0 (v : Int) f).run (uStps f.length cs) = .ok ⟨(v : Int), numT succN (f ++ cs.map (·.1)), ((f.length + cs.length : Nat) : Int), cs.length, false⟩ := by
  induction h with
  | nil => simp [uStps, Kst.run, kst0]
  | @snoc cs c hs h0 h1 h2 h3 h4 h5 h6 ih =>
    have ih := ih fun p hp => hn p (List.mem_append_left _ hp)
    have hc : c ≠ [] := hn (c, hs) (List.mem_append_right _ (List.mem_singleton.mpr rfl))
    have hce : c.isEmpty = false := by cases c <;> first | rfl | exact absurd rfl hc
    rw [uStps_app, Kst.run_app, ih]
    simp only
    rw [show uStps (f.length + cs.length) [(c, hs)] = [uStep (f.length + cs.length) (c, hs)] from rfl, Kst.run_one]
    have hfit : (Kst.mk (v : Int) (numT succN (f ++ cs.map (·.1))) ((f.length + cs.length : Nat) : Int) cs.length false).fits (((f.length + cs.length : Nat) : Int) + 1) c hs = true := by
      unfold Kst.fits
      rw [decide_eq_true (show ((f.length + cs.length : Nat) : Int) < ((f.length + cs.length : Nat) : Int) + 1 by omega), inV_of h1, follows_of h6]
      rfl
    have htk : (Kst.mk (v : Int) (numT succN (f ++ cs.map (·.1))) ((f.length + cs.length : Nat) : Int) cs.length false).take (uStep (f.length + cs.length) (c, hs)) = some ⟨(v : Int), tput (numT succN (f ++ cs.map (·.1))) (((f.length + cs.length : Nat) : Int) + 1) c, ((f.length + cs.length : Nat) : Int) + 1, cs.length + 1, false⟩ := by
      unfold Kst.take uStep
      rw [if_neg (fun z => absurd z Bool.false_ne_true)]
      simp only [hfit, if_true, Kst.grow, hce, Bool.or_self]
    rw [htk]
    simp only
    have e1 : tput (numT succN (f ++ cs.map (·.1))) (((f.length + cs.length : Nat) : Int) + 1) c = numT succN (f ++ (cs ++ [(c, hs)]).map (·.1)) := by
      have := tput_new (f := f ++ cs.map (·.1)) (c := c)
      rw [List.length_append, List.length_map] at this
      rw [this]; simp
    rw [e1]
    congr 1
    simp
    omega
/-- the last adds the empty clause -/
theorem UCh.refutes {v : Nat} {f : List (List Int)} {cs : List (List Int × List Int)} {hs : List Int} (h : UCh v f (cs ++ [([], hs)])) (hn : ∀ p ∈ cs, p.1 ≠ []) : ∃ k, (kst0 (v : Int) f).run (uStps f.length (cs ++ [([], hs)])) = .ok k ∧ k.r = true := by
  have main : ∀ cs', UCh v f cs' → cs' = cs ++ [([], hs)] → ∃ k, (kst0 (v : Int) f).run (uStps f.length cs') = .ok k ∧ k.r = true := by
    intro cs' h e
    cases h with
    | nil => simp at e
    | @snoc cs1 c hs1 h0 h1 h2 h3 h4 h5 h6 =>
      obtain ⟨e1, e2⟩ := List.append_inj' e rfl
      subst e1
      cases e2
      have hr := h0.run hn
      rw [uStps_app, Kst.run_app, hr]
      simp only
      have hfit : (Kst.mk (v : Int) (numT succN (f ++ cs1.map (·.1))) ((f.length + cs1.length : Nat) : Int) cs1.length false).fits (((f.length + cs1.length : Nat) : Int) + 1) [] hs = true := by
        unfold Kst.fits
        rw [decide_eq_true (show ((f.length + cs1.length : Nat) : Int) < ((f.length + cs1.length : Nat) : Int) + 1 by omega), inV_of h1, follows_of h6]
        rfl
      rw [show uStps (f.length + cs1.length) [([], hs)] = [uStep (f.length + cs1.length) ([], hs)] from rfl, Kst.run_one]
      have htk : (Kst.mk (v : Int) (numT succN (f ++ cs1.map (·.1))) ((f.length + cs1.length : Nat) : Int) cs1.length false).take (uStep (f.length + cs1.length) ([], hs)) = some ⟨(v : Int), tput (numT succN (f ++ cs1.map (·.1))) (((f.length + cs1.length : Nat) : Int) + 1) [], ((f.length + cs1.length : Nat) : Int) + 1, cs1.length + 1, true⟩ := by
        unfold Kst.take uStep
        rw [if_neg (fun z => absurd z Bool.false_ne_true)]
        simp only [hfit, if_true, Kst.grow]
        rfl
      rw [htk]
      exact ⟨_, rfl, rfl⟩
  exact main _ h rfl
/-! ### a refutation that was taken: no model -/
theorem nodup_tput {t : Tb} (h : (t.map (·.1)).Nodup) (k : Int) (c : List Int) : ((tput t k c).map (·.1)).Nodup := by
  unfold tput
  split
  · rw [List.map_map]
    have : (t.map ((fun e : Int × List Int => e.1) ∘ fun e => if e.1 = k then (e.1, c) else e)) = t.map (·.1) := by
      refine List.map_congr_left fun e _ => ?_
      simp only [Function.comp_def]
      split <;> rfl
    rw [this]; exact h
  · rename_i hn
    rw [List.map_append, List.nodup_append]
    refine ⟨h, by simp, ?_⟩
    intro a ha b hb e
    obtain ⟨p, hp, rfl⟩ := List.mem_map.mp ha
    simp only [List.map_cons, List.map_nil, List.mem_singleton] at hb
    subst hb
    exact hn (List.any_eq_true.mpr ⟨p, hp, decide_eq_true e⟩)
theorem nodup_tdrop {t : Tb} (h : (t.map (·.1)).Nodup) (k : Int) : ((tdrop t k).map (·.1)).Nodup := by
  refine List.Nodup.sublist ?_ h
  exact List.filter_sublist.map _
theorem nodup_drops {ns : List Int} : ∀ {t : Tb}, (t.map (·.1)).Nodup → ((ns.foldl tdrop t).map (·.1)).Nodup := by
  induction ns with
  | nil => intro t h; exact h
  | cons n ns ih => intro t h; exact ih (nodup_tdrop h n)
theorem drops_mem {ns : List Int} : ∀ {t : Tb} {e : Int × List Int}, e ∈ ns.foldl tdrop t → e ∈ t := by
  induction ns with
  | nil => intro t e h; exact h
  | cons n ns ih => intro t e h; exact tdrop_mem (ih h)
structure KSat (k : Kst) : Prop where
  z : ∀ e ∈ k.t, 0 ∉ e.2
  nd : (k.t.map (·.1)).Nodup
  sat : ∃ σ, tt σ k.t
  r : k.r = false
theorem KSat.take {k k' : Kst} (h : KSat k) {s : Stp} (hs : StpOk s) (e : k.take s = some k') : KSat k' := by
  unfold Kst.take at e
  rw [if_neg (by rw [h.r]; decide)] at e
  cases s with
  | drop ns =>
    cases e
    obtain ⟨σ, hσ⟩ := h.sat
    exact ⟨fun e he => h.z e (drops_mem he), nodup_drops h.nd, ⟨σ, fun e he => hσ e (drops_mem he)⟩, h.r⟩
  | add n c hs' =>
    simp only at e
    split at e
    · rename_i hf
      cases e
      obtain ⟨h0, _, _⟩ := hs.add n c hs' rfl
      unfold Kst.fits at hf
      rw [Bool.and_eq_true, Bool.and_eq_true] at hf
      obtain ⟨σ, hσ⟩ := h.sat
      obtain ⟨τ, h1, h2⟩ := follows_sound h.z (fun e he => find_key h.nd he) h0 hf.2.2 hσ
      have hc : c.isEmpty = false := by
        cases c with
        | nil => cases h2
        | cons _ _ => rfl
      refine ⟨fun e he => ?_, nodup_tput h.nd n c, ⟨τ, fun e he => ?_⟩, ?_⟩
      · rcases tput_mem he with z | z
        · exact h.z e z
        · subst z; exact h0
      · rcases tput_mem he with z | z
        · exact h1 e z
        · subst z; exact h2
      · show (k.r || c.isEmpty) = false
        rw [h.r, hc]; rfl
    · cases e
theorem run_sound : ∀ (steps : List Stp) (k k' : Kst), KSat k → (∀ s ∈ steps, StpOk s) → k.run steps = .ok k' → KSat k'
  | [], k, k', h, _, e => by cases e; exact h
  | s :: steps, k, k', h, hs, e => by
    have e : (match k.take s with | none => Except.error k.tk | some k' => k'.run steps) = .ok k' := e
    cases ht : k.take s with
    | none => rw [ht] at e; cases e
    | some k1 =>
      rw [ht] at e
      exact run_sound steps k1 k' (h.take (hs s (List.mem_cons_self ..)) ht) (fun q hq => hs q (List.mem_cons_of_mem _ hq)) e
theorem refuted_sound {v : Int} {f : List (List Int)} (h0 : ∀ c ∈ f, 0 ∉ c) {steps : List Stp} (hs : ∀ s ∈ steps, StpOk s) {k : Kst} (h : (kst0 v f).run steps = .ok k) (hr : k.r = true) (σ : Asg) : ft σ f = false := by
  cases hf : ft σ f with
  | false => rfl
  | true =>
    have hk : KSat (kst0 v f) := ⟨fun e he => by obtain ⟨_, _, _, hm⟩ := numT_mem he; exact h0 _ hm, numT_nodup succN_inj f, ⟨σ, tt_ft.mpr hf⟩, rfl⟩
    have := (run_sound steps _ _ hk hs h).r
    rw [hr] at this; cases this
theorem models_nil {v : Nat} {f : List (List Int)} (hf : ∀ c ∈ f, InR v c) (h : ∀ σ, ft σ f = false) : models v f = [] := by
  cases e : models v f with
  | nil => rfl
  | cons m r =>
    obtain ⟨σ, _, hσ⟩ := (mem_models hf).mp (by rw [e]; exact List.mem_cons_self ..)
    rw [h σ] at hσ; cases hσ
end DL
/-! The law's own refutation: every clause of all signs is come to. No program in sight. -/
namespace DL
open PySem L2

theorem asg_snoc' (v : Nat) (σ : Asg) : asg (v + 1) σ = asg v σ ++ [sg σ (v + 1)] := by unfold asg; rw [List.range_succ, List.map_append]; rfl
theorem openL_nodup (L c : List Int) : (openL L c).Nodup := (nodup_unlikeL c).sublist List.filter_sublist
/-- a round walks -/
theorem hround_walk {t : Tb} {L0 : List Int} : ∀ (ks L H : List Int), (∀ k ∈ ks, 0 < k ∧ ∃ c, tget t k = some c) → walkL t L0 H 0 = (1, H.length, L) → (∀ h ∈ H, 0 < h) →
    match hround t ks L H with
    | .inl r => (walkL t L0 r 0).1 = 2 ∧ ∀ h ∈ r, 0 < h
    | .inr (L', H') => walkL t L0 H' 0 = (1, H'.length, L') ∧ ∀ h ∈ H', 0 < h
  | [], L, H, _, hw, hp => ⟨hw, hp⟩
  | n :: ks, L, H, hk, hw, hp => by
    obtain ⟨hn, c, hc⟩ := hk n (List.mem_cons_self ..)
    have hk' : ∀ k ∈ ks, 0 < k ∧ ∃ c, tget t k = some c := fun k h => hk k (List.mem_cons_of_mem _ h)
    have hp' : ∀ h ∈ H ++ [n], 0 < h := by
      intro h hh
      rcases List.mem_append.mp hh with z | z
      · exact hp h z
      · rw [List.mem_singleton] at z; subst z; exact hn
    have happ := (walkL_app t H [n] L0 0 (fun h hh => Int.le_of_lt (hp h hh)) (by rw [hw])).1
    rw [hw] at happ
    simp only at happ
    rw [walkL_one (Int.le_of_lt hn) hc] at happ
    unfold hround
    rw [hc]
    simp only [Option.getD_some]
    cases hop : openL L c with
    | nil =>
      rw [hop] at happ
      simp only at happ ⊢
      exact ⟨by rw [happ], hp'⟩
    | cons x r =>
      rw [hop] at happ
      simp only at happ ⊢
      by_cases cc : r = [] ∧ x ∉ L
      · rw [if_pos cc]
        rw [if_neg (fun z => by rcases z with z | z; exact z cc.1; exact cc.2 z)] at happ
        exact hround_walk ks (L ++ [x]) (H ++ [n]) hk' (by rw [happ]; simp) hp'
      · rw [if_neg cc]
        exact hround_walk ks L H hk' hw hp
/-- two clauses that want a literal and its opposite -/
theorem hround_two {t : Tb} {n1 n2 : Int} {c1 c2 : List Int} {x : Int} (hne : n1 ≠ n2) (h1 : tget t n1 = some c1) (h2 : tget t n2 = some c2) {L0 : List Int} (g1 : ∀ l ∈ c1, l = x ∨ -l ∈ L0) (g2 : ∀ l ∈ c2, l = -x ∨ -l ∈ L0) :
    ∀ (ks L H : List Int), (∀ l ∈ L0, l ∈ L) → ((n1 ∈ ks ∧ n2 ∈ ks) ∨ (x ∈ L ∧ n2 ∈ ks) ∨ (-x ∈ L ∧ n1 ∈ ks)) → ∃ r, hround t ks L H = .inl r
  | [], L, H, _, h => by rcases h with ⟨h, _⟩ | ⟨_, h⟩ | ⟨_, h⟩ <;> cases h
  | n :: ks, L, H, hL, h => by
    have o1 : ∀ l ∈ openL L c1, l = x := fun l hl => by
      obtain ⟨a, b⟩ := mem_openL.mp hl
      rcases g1 l a with e | e
      · exact e
      · exact absurd (hL _ e) b
    have o2 : ∀ l ∈ openL L c2, l = -x := fun l hl => by
      obtain ⟨a, b⟩ := mem_openL.mp hl
      rcases g2 l a with e | e
      · exact e
      · exact absurd (hL _ e) b
    have sub : ∀ y, ∀ l ∈ L0, l ∈ L ++ [y] := fun y l hl => List.mem_append_left _ (hL l hl)
    unfold hround
    cases hop : openL L ((tget t n).getD []) with
    | nil => exact ⟨_, rfl⟩
    | cons y r =>
      simp only
      by_cases e1 : n = n1
      · subst e1
        rw [h1, Option.getD_some] at hop
        have hy : y = x := o1 y (by rw [hop]; exact List.mem_cons_self ..)
        have hr : r = [] := by
          cases r with
          | nil => rfl
          | cons z r =>
            have hz : z = x := o1 z (by rw [hop]; simp)
            have := openL_nodup L c1
            rw [hop, hy, hz] at this
            simp at this
        have hnx : -x ∉ L := (mem_openL.mp (show x ∈ openL L c1 by rw [hop, hy]; exact List.mem_cons_self ..)).2
        have h2in : n2 ∈ ks := by
          have : n2 ∈ n :: ks := by
            rcases h with ⟨_, h⟩ | ⟨_, h⟩ | ⟨h, _⟩
            · exact h
            · exact h
            · exact absurd h hnx
          rcases List.mem_cons.mp this with z | z
          · exact absurd z.symm hne
          · exact z
        subst hy
        by_cases cc : r = [] ∧ y ∉ L
        · rw [if_pos cc]
          exact hround_two hne h1 h2 g1 g2 ks _ _ (sub y) (.inr (.inl ⟨by simp, h2in⟩))
        · rw [if_neg cc]
          have hyL : y ∈ L := by
            by_cases z : y ∈ L
            · exact z
            · exact absurd ⟨hr, z⟩ cc
          exact hround_two hne h1 h2 g1 g2 ks _ _ hL (.inr (.inl ⟨hyL, h2in⟩))
      · by_cases e2 : n = n2
        · subst e2
          rw [h2, Option.getD_some] at hop
          have hy : y = -x := o2 y (by rw [hop]; exact List.mem_cons_self ..)
          have hr : r = [] := by
            cases r with
            | nil => rfl
            | cons z r =>
              have hz : z = -x := o2 z (by rw [hop]; simp)
              have := openL_nodup L c2
              rw [hop, hy, hz] at this
              simp at this
          have hnx : x ∉ L := by
            have := (mem_openL.mp (show -x ∈ openL L c2 by rw [hop, hy]; exact List.mem_cons_self ..)).2
            rwa [Int.neg_neg] at this
          have h1in : n1 ∈ ks := by
            have : n1 ∈ n :: ks := by
              rcases h with ⟨h, _⟩ | ⟨h, _⟩ | ⟨_, h⟩
              · exact h
              · exact absurd h hnx
              · exact h
            rcases List.mem_cons.mp this with z | z
            · exact absurd z hne
            · exact z
          subst hy
          by_cases cc : r = [] ∧ -x ∉ L
          · rw [if_pos cc]
            exact hround_two hne h1 h2 g1 g2 ks _ _ (sub (-x)) (.inr (.inr ⟨by simp, h1in⟩))
          · rw [if_neg cc]
            have hyL : -x ∈ L := by
              by_cases z : -x ∈ L
              · exact z
              · exact absurd ⟨hr, z⟩ cc
            exact hround_two hne h1 h2 g1 g2 ks _ _ hL (.inr (.inr ⟨hyL, h1in⟩))
        · have tail : ∀ {a}, a ∈ n :: ks → a ≠ n → a ∈ ks := fun h hn => by
            rcases List.mem_cons.mp h with z | z
            · exact absurd z hn
            · exact z
          have h' : ∀ L' : List Int, (∀ l ∈ L, l ∈ L') → ((n1 ∈ ks ∧ n2 ∈ ks) ∨ (x ∈ L' ∧ n2 ∈ ks) ∨ (-x ∈ L' ∧ n1 ∈ ks)) := by
            intro L' hs
            rcases h with ⟨a, b⟩ | ⟨a, b⟩ | ⟨a, b⟩
            · exact .inl ⟨tail a (fun z => e1 z.symm), tail b (fun z => e2 z.symm)⟩
            · exact .inr (.inl ⟨hs _ a, tail b (fun z => e2 z.symm)⟩)
            · exact .inr (.inr ⟨hs _ a, tail b (fun z => e1 z.symm)⟩)
          by_cases cc : r = [] ∧ y ∉ L
          · rw [if_pos cc]
            exact hround_two hne h1 h2 g1 g2 ks _ _ (sub y) (h' _ fun l hl => List.mem_append_left _ hl)
          · rw [if_neg cc]
            exact hround_two hne h1 h2 g1 g2 ks _ _ hL (h' _ fun l hl => hl)
/-- a clause that is false -/
theorem hround_false {t : Tb} {n1 : Int} {c1 : List Int} (h1 : tget t n1 = some c1) {L0 : List Int} (g1 : ∀ l ∈ c1, -l ∈ L0) : ∀ (ks L H : List Int), (∀ l ∈ L0, l ∈ L) → n1 ∈ ks → ∃ r, hround t ks L H = .inl r
  | [], L, H, _, h => by cases h
  | n :: ks, L, H, hL, h => by
    unfold hround
    cases hop : openL L ((tget t n).getD []) with
    | nil => exact ⟨_, rfl⟩
    | cons y r =>
      simp only
      have hn : n1 ∈ ks := by
        rcases List.mem_cons.mp h with z | z
        · exfalso
          subst z
          rw [h1, Option.getD_some] at hop
          obtain ⟨a, b⟩ := mem_openL.mp (show y ∈ openL L c1 by rw [hop]; exact List.mem_cons_self ..)
          exact b (hL _ (g1 y a))
        · exact z
      split
      · exact hround_false h1 g1 ks (L ++ [y]) (H ++ [n]) (fun l hl => List.mem_append_left _ (hL l hl)) hn
      · exact hround_false h1 g1 ks L H hL hn
theorem hints_end {t : Tb} {L0 : List Int} (hk : ∀ e ∈ t, 0 < e.1) (h : ∃ r : List Int, hround t (srt (t.map (·.1))) L0 [] = .inl r) : (walkL t L0 (hintsL t L0) 0).1 = 2 ∧ ∀ h ∈ hintsL t L0, 0 < h := by
  obtain ⟨r, hr⟩ := h
  have hw := hround_walk (t := t) (L0 := L0) (srt (t.map (·.1))) L0 [] (fun k hk' => by
    have hm := (srt_perm _).mem_iff.mp hk'
    obtain ⟨e, he, rfl⟩ := List.mem_map.mp hm
    exact ⟨hk e he, tget_of_mem he⟩) rfl (by simp)
  rw [hr] at hw
  simp only at hw
  have : hintsL t L0 = r := by
    unfold hintsL
    show (match hround t (srt (t.map (·.1))) L0 [] with | .inl r => r | .inr (L', H') => hrounds t (srt (t.map (·.1))) 8 L' H') = r
    rw [hr]
  rw [this]
  exact hw
/-- the clause that the truths of a number make false -/
def sgc (s m : Nat) : List Int := (asg s (ofB m)).map fun l => -l
theorem sgc_neg (s m : Nat) : (sgc s m).map (fun l => -l) = asg s (ofB m) := by unfold sgc; rw [List.map_map]; simp [Function.comp_def]
theorem sgc_len (s m : Nat) : (sgc s m).length = s := by simp [sgc, asg]
theorem asg_InR {v s : Nat} (h : s ≤ v) (σ : Asg) : InR v (asg s σ) := by
  intro l hl
  obtain ⟨k, hk, rfl⟩ := List.mem_map.mp hl
  have := List.mem_range.mp hk
  unfold litOk sg
  split <;> omega
theorem sgc_InR {v s : Nat} (h : s ≤ v) (m : Nat) : InR v (sgc s m) := by
  intro l hl
  obtain ⟨a, ha, rfl⟩ := List.mem_map.mp hl
  have := asg_InR h (ofB m) a ha
  unfold litOk at this ⊢
  rw [Int.natAbs_neg]; exact this
theorem sgc_both (s m : Nat) : bothL (sgc s m) = false := by
  cases h : bothL (sgc s m) with
  | false => rfl
  | true =>
    exfalso
    obtain ⟨l, hl, e⟩ := List.any_eq_true.mp h
    have e := of_decide_eq_true e
    obtain ⟨a, ha, rfl⟩ := List.mem_map.mp hl
    obtain ⟨b, hb, e2⟩ := List.mem_map.mp e
    have ok := asg_InR (Nat.le_refl s) (ofB m)
    have h1 : lt (ofB m) a = true := by rw [← mem_asg (ok a ha)]; exact decide_eq_true ha
    have h2 : lt (ofB m) b = true := by rw [← mem_asg (ok b hb)]; exact decide_eq_true hb
    have hba : b = -a := by omega
    rw [hba, lt_neg (by have := (ok a ha).1; omega), h1] at h2
    cases h2
theorem ofB_add {s m k : Nat} (hm : m < 2 ^ s) (hk : 1 ≤ k) (hks : k ≤ s) : ofB (m + 2 ^ s) k = ofB m k := by
  unfold ofB
  congr 2
  have e : 2 ^ s = 2 ^ (k - 1) * (2 * 2 ^ (s - k)) := by
    rw [← Nat.mul_assoc, ← Nat.pow_succ, ← Nat.pow_add]
    congr 1; omega
  rw [e, Nat.add_mul_div_left _ _ (Nat.two_pow_pos _), Nat.add_mul_mod_self_left]
theorem sgc_lo {s m : Nat} (hm : m < 2 ^ s) : sgc (s + 1) m = sgc s m ++ [((s : Int) + 1)] := by
  unfold sgc
  rw [asg_snoc', List.map_append]
  congr 1
  have : ofB m (s + 1) = false := by
    unfold ofB
    rw [Nat.add_sub_cancel, Nat.div_eq_of_lt hm]; rfl
  simp [sg, this]
theorem sgc_hi {s m : Nat} (hm : m < 2 ^ s) : sgc (s + 1) (m + 2 ^ s) = sgc s m ++ [-((s : Int) + 1)] := by
  unfold sgc
  rw [asg_snoc', List.map_append]
  have h1 : asg s (ofB (m + 2 ^ s)) = asg s (ofB m) := asg_ext fun k h1 h2 => ofB_add hm h1 h2
  have h2 : ofB (m + 2 ^ s) (s + 1) = true := by
    unfold ofB
    rw [Nat.add_sub_cancel, Nat.add_div_right _ (Nat.two_pow_pos _), Nat.div_eq_of_lt hm]; rfl
  rw [h1]
  simp [sg, h2]
/-- what was come to so far -/
structure SInv (v : Nat) (f : List (List Int)) (s m : Nat) (cs : List (List Int × List Int)) : Prop where
  ch : UCh v f cs
  ne : ∀ p ∈ cs, p.1 ≠ []
  up : ∀ s', s < s' → s' ≤ v → ∀ m' < 2 ^ s', sgc s' m' ∈ cs.map (·.1)
  here : ∀ m' < m, sgc s m' ∈ cs.map (·.1)
  len : cs.length + 2 ^ (s + 1) = 2 ^ (v + 1) + m
theorem SInv.ends {v : Nat} {f : List (List Int)} (hf : ∀ c ∈ f, InR v c) (hno : ∀ σ, ft σ f = false) {s m : Nat} (hs : s ≤ v) (hm : m < 2 ^ s) {cs : List (List Int × List Int)} (h : SInv v f s m cs) :
    (walkL (numT succN (f ++ cs.map (·.1))) ((sgc s m).map fun l => -l) (hintsL (numT succN (f ++ cs.map (·.1))) ((sgc s m).map fun l => -l)) 0).1 = 2 ∧ ∀ h ∈ hintsL (numT succN (f ++ cs.map (·.1))) ((sgc s m).map fun l => -l), 0 < h := by
  rw [sgc_neg]
  have hpos : ∀ e ∈ numT succN (f ++ cs.map (·.1)), 0 < e.1 := by
    intro e he
    obtain ⟨k, _, h2, _⟩ := numT_mem he
    rw [h2]; unfold succN; omega
  have key : ∀ c ∈ f ++ cs.map (·.1), ∃ n, tget (numT succN (f ++ cs.map (·.1))) n = some c ∧ n ∈ srt ((numT succN (f ++ cs.map (·.1))).map (·.1)) := by
    intro c hc
    obtain ⟨e, he, rfl⟩ := numT_at (g := succN) hc
    exact ⟨e.1, find_key (numT_nodup succN_inj _) he, (srt_perm _).mem_iff.mpr (List.mem_map.mpr ⟨e, he, rfl⟩)⟩
  refine hints_end hpos ?_
  by_cases hv : s = v
  · subst hv
    have := hno (ofB m)
    unfold ft at this
    obtain ⟨c, hc, hcf⟩ : ∃ c ∈ f, ct (ofB m) c = false := by
      have := List.all_eq_false.mp this
      obtain ⟨c, hc, e⟩ := this
      exact ⟨c, hc, by simpa using e⟩
    obtain ⟨n, h1, h2⟩ := key c (List.mem_append_left _ hc)
    refine hround_false h1 (L0 := asg s (ofB m)) (fun l hl => ?_) _ _ _ (fun l hl => hl) h2
    have hlf : lt (ofB m) l = false := by simpa using List.any_eq_false.mp hcf l hl
    have ok := hf c hc l hl
    have ok' : litOk s (-l) := by unfold litOk at ok ⊢; rw [Int.natAbs_neg]; exact ok
    have : decide (-l ∈ asg s (ofB m)) = true := by rw [mem_asg ok', lt_neg (by have := ok.1; omega), hlf]; rfl
    exact of_decide_eq_true this
  · have hlt : s + 1 ≤ v := by omega
    have hp : 2 ^ (s + 1) = 2 ^ s + 2 ^ s := by rw [Nat.pow_succ]; omega
    obtain ⟨n1, a1, b1⟩ := key (sgc (s + 1) m) (List.mem_append_right _ (h.up (s + 1) (by omega) hlt m (by omega)))
    obtain ⟨n2, a2, b2⟩ := key (sgc (s + 1) (m + 2 ^ s)) (List.mem_append_right _ (h.up (s + 1) (by omega) hlt (m + 2 ^ s) (by omega)))
    have hne : n1 ≠ n2 := by
      intro z
      rw [z, a2] at a1
      have := Option.some.inj a1
      rw [sgc_lo hm, sgc_hi hm] at this
      have := List.append_cancel_left this
      simp at this
      omega
    refine hround_two hne a1 a2 (x := (s : Int) + 1) (L0 := asg s (ofB m)) (fun l hl => ?_) (fun l hl => ?_) _ _ _ (fun l hl => hl) (.inl ⟨b1, b2⟩)
    · rw [sgc_lo hm] at hl
      rcases List.mem_append.mp hl with z | z
      · right
        rw [← sgc_neg]
        exact List.mem_map.mpr ⟨l, z, rfl⟩
      · left; rwa [List.mem_singleton] at z
    · rw [sgc_hi hm] at hl
      rcases List.mem_append.mp hl with z | z
      · right
        rw [← sgc_neg]
        exact List.mem_map.mpr ⟨l, z, rfl⟩
      · left; rwa [List.mem_singleton] at z
end DL
/-! What the program's defs of following compute. -/
namespace DL
open PySem L2

theorem fis_true {x : List (Int × Int)} {L : List Int} (h : relT x L) {l : Int} (hl : l ≠ 0) : f_is_true [.dct (dE x), .int l] = .ok (.bl (decide (l ∈ L))) := by
  refine run_rt ?_
  show m_is_true [.fz (.dct (dE x)), .fz (.int l)] = _
  simp only [m_is_true, s0_is_true, s_mRet, s_m2, s_m1, s_getV0, s_getVs, s_getF0, s_getFs, s_cst, R.bind_ok, isDctR, s_aCons, s_aNil, s_on1, s_absI, abs_nat, getD3, getZ_D, s_negI, s_eqI, h.yes hl, toS_ok]
theorem fis_false {x : List (Int × Int)} {L : List Int} (h : relT x L) {l : Int} (hl : l ≠ 0) : f_is_false [.dct (dE x), .int l] = .ok (.bl (decide (-l ∈ L))) := by
  refine run_rt ?_
  show m_is_false [.fz (.dct (dE x)), .fz (.int l)] = _
  simp only [m_is_false, s0_is_false, s_mRet, s_m2, s_m1, s_getV0, s_getVs, s_getF0, s_getFs, s_cst, R.bind_ok, isDctR, s_aCons, s_aNil, s_on1, s_absI, abs_nat, getD3, getZ_D, s_negI, s_eqI, h.no hl, toS_ok]
theorem fopened {x : List (Int × Int)} {L c : List Int} (h : relT x L) (h0 : 0 ∉ c) (hc : c.length ≤ 1000) : f_opened [.dct (dE x), cD c] = .ol ((openL L c).map D.int) := by
  have hb := big
  have hu := len_unlikeL c
  have e : mLc (.one 2) [2] (mItems (fun S => ((aCons (getF 1) aNil) S).bind f_unlike)) c0_opened e0_opened [.fz (.dct (dE x)), .fz (cD c), .un] = .ok ((openL L c).map D.int) := by
    refine mLc_eq (unlikeL c) D.int D.int (fun l => !decide (-l ∈ L)) ?_ (by omega) fun l hl => ⟨_, rfl, ?_, fun _ => ?_⟩
    · simp only [s_mItems, s_aCons, s_getFs, s_getF0, R.bind_ok, s_aNil, funlike c hc]; rfl
    · have hz : l ≠ 0 := fun e => h0 (e ▸ (mem_unlikeL c l).mp hl)
      simp [c0_opened, wipeS, fis_false h hz]
    · simp [e0_opened, wipeS]
  have e2 : m_opened [.fz (.dct (dE x)), .fz (cD c), .un] = .rl ((openL L c).map D.int) := by
    simp only [m_opened, s0_opened, mRetN, e, toSL_ok]
  show runDefO 3 2 m_opened [.dct (dE x), cD c] = _
  unfold runDefO
  rw [show ([D.dct (dE x), cD c].map Sl.fz ++ List.replicate (3 - 2) Sl.un) = [.fz (.dct (dE x)), .fz (cD c), .un] from rfl, e2]
theorem scalL_ints (l : List Int) : scalL (l.map D.int) = .ok (l.map D.int) := by
  unfold scalL
  rw [if_pos]
  rw [List.all_eq_true]
  intro d hd
  obtain ⟨i, _, rfl⟩ := List.mem_map.mp hd
  rfl
@[simp] theorem toN_ol (ds : List D) : (RO.ol ds).toN = .ok ds := id rfl
@[simp] theorem toR_ol (ds : List D) : (RO.ol ds).toR = .ok (.lst ds) := id rfl
@[simp] theorem toND_od (ds : List (Int × D)) : (RO.od ds).toND = .ok ds := id rfl
theorem mPut_eq {i : Nat} {mk m : List Sl → R D} {S : List Sl} {es : List (Int × D)} {k : Int} {d : D} (h : S[i]? = some (.od es)) (hm : m S = .ok d) (hk : mk S = .ok (.int k)) (hl : es.length < sizeLine) : mPut i mk m S = .nx (S.set i (.od (putD es k d))) := by
  unfold mPut
  rw [h]
  simp only [hm, hk, toS_ok, if_pos hl]
theorem mPut_eqP {i j : Nat} {mk m : List Sl → R D} {S : List Sl} {es : List (Int × D)} {k : Int} {d : D} (h : S[i]? = some (.pd j es)) (hm : m S = .ok d) (hk : mk S = .ok (.int k)) (hl : es.length < sizeLine) : mPut i mk m S = .nx (S.set i (.pd j (putD es k d))) := by
  unfold mPut
  rw [h]
  simp only [hm, hk, toS_ok, if_pos hl]
theorem dE_len (x : List (Int × Int)) : (dE x).length = x.length := by simp [dE]
/-- truths made of literals -/
def madeZ (L : List Int) : List (Int × Int) := L.foldl (fun x l => putZ x (l.natAbs : Int) l) []
theorem madeZ_snoc (L : List Int) (l : Int) : madeZ (L ++ [l]) = putZ (madeZ L) (l.natAbs : Int) l := by unfold madeZ; rw [List.foldl_append]; rfl
theorem madeZ_len (L : List Int) : (madeZ L).length ≤ L.length := by
  refine snoc_ind (P := fun L => (madeZ L).length ≤ L.length) (Nat.le_refl _) (fun c l ih => ?_) L
  rw [madeZ_snoc]
  have := putZ_len (madeZ c) (l.natAbs : Int) l
  simp; omega
theorem relT_made (L : List Int) (h0 : 0 ∉ L) (hn : ∀ l ∈ L, -l ∉ L) : relT (madeZ L) L := by
  revert h0 hn
  refine snoc_ind (P := fun L => 0 ∉ L → (∀ l ∈ L, -l ∉ L) → relT (madeZ L) L) (fun _ _ => relT_nil) (fun c l ih h0 hn => ?_) L
  rw [madeZ_snoc]
  have i := ih (fun z => h0 (List.mem_append_left _ z)) (fun j hj hm => hn j (List.mem_append_left _ hj) (List.mem_append_left _ hm))
  refine i.put (fun z => h0 (by rw [z]; simp)) fun z => hn l (by simp) (List.mem_append_left _ z)
theorem fmade (L : List Int) (hl : L.length ≤ 2000) : f_made [.lst (L.map D.int)] = .od (dE (madeZ L)) := by
  have hb := big
  have e2 : m_made [.fz (.lst (L.map D.int)), .un, .un] = .rd (dE (madeZ L)) := by
    refine seq_nx (S1 := [.fz (.lst (L.map D.int)), .od [], .un]) rfl ?_
    obtain ⟨S', e, x, rfl⟩ := loop_nx (t := .one 2) (body := b0_made) (xs := L) (S := [.fz (.lst (L.map D.int)), .od [], .un]) D.int
      (fun pre S => ∃ x, S = [.fz (.lst (L.map D.int)), .od (dE (madeZ pre)), x]) (by
        rintro pre l post S hx ⟨x, rfl⟩
        have h1 : pre.length ≤ L.length := by rw [hx]; simp
        have h2 := madeZ_len pre
        refine ⟨_, [.fz (.lst (L.map D.int)), .od (dE (madeZ (pre ++ [l]))), .fz (.int l)], rfl, .inl ?_, _, rfl⟩
        have := mPut_eq (i := 1) (mk := (fun S => ((aCons (getV 2) aNil) S).bind (on1 absD))) (m := getF 2) (S := [.fz (.lst (L.map D.int)), .od (dE (madeZ pre)), .fz (.int l)]) (es := dE (madeZ pre)) (k := (l.natAbs : Int)) (d := .int l) rfl rfl (by simp [abs_nat]) (by rw [dE_len]; omega)
        show b0_made [.fz (.lst (L.map D.int)), .od (dE (madeZ pre)), .fz (.int l)] = _
        unfold b0_made
        rw [this, putD_dE, madeZ_snoc]
        rfl) ⟨_, rfl⟩
    refine seq_nx (S1 := _) (show mFor _ _ _ _ = _ by
      rw [s_mFor]
      simp only [s_mItems, s_getF0, R.bind_ok, s_itemsL, toSL_ok]
      exact e) ?_
    rfl
  show runDefO 3 1 m_made [.lst (L.map D.int)] = _
  unfold runDefO
  rw [show ([D.lst (L.map D.int)].map Sl.fz ++ List.replicate (3 - 1) Sl.un) = [.fz (.lst (L.map D.int)), .un, .un] from rfl, e2]
end DL
/-! Plain lemmas for walks over hints. -/
namespace DL
open PySem L2
@[simp] theorem s_mRetN (m : List Sl → R (List D)) (S : List Sl) : mRetN m S = toSL (m S) S fun d => .rl d := id rfl
@[simp] theorem s_mRetP (m : List Sl → RS) (S : List Sl) : mRetP m S = match m S with
  | .ok d _ => .rt d
  | .exc e S' => .ex e S'
  | .bad => .bad := id rfl
@[simp] theorem s_mRetS (m : List Sl → R D) (S : List Sl) : mRetS m S = toS (m S) S fun d => .rs d S := id rfl
@[simp] theorem s_inK (es : List (Int × D)) (k : Int) : inD (.int k) (.dct es) = .ok (.bl (keyD es k).isSome) := id rfl
theorem seq_rs {a b : List Sl → SO} {S S' : List Sl} {d : D} (h : a S = .rs d S') : mSeq a b S = .rs d S' := by rw [s_mSeq, h]
theorem lim3 (a b c : D) : lim [a, b, c] = .ok [a, b, c] := limS (by simp)
theorem lim0' : lim [] = .ok [] := limS (by simp)
/-- what a walk's step says -/
def wtup (s : Str) (u : Nat) : D := .tup [.str s, .int (u : Int)]
def stS : Nat → Str
  | 0 => "wrong"
  | 1 => "out"
  | _ => "ended"
theorem loop_cons_nx {t : Tg} {body : List Sl → SO} {d : D} {ds : List D} {S S1 S2 : List Sl} (h : t.put d S = .ok S1) (h2 : body S1 = .nx S2) : loopM t body (d :: ds) S = loopM t body ds S2 := by
  rw [loopM, h]; simp only [h2]
theorem loop_cons_rs {t : Tg} {body : List Sl → SO} {d : D} {ds : List D} {S S1 S2 : List Sl} {v : D} (h : t.put d S = .ok S1) (h2 : body S1 = .rs v S2) : loopM t body (d :: ds) S = .rs v S2 := by
  rw [loopM, h]; simp only [h2]
/-- hints: a list or a tuple of numbers -/
def numsOf (d : D) (hs : List Int) : Prop := itemsD d = .ok (hs.map D.int) ∧ lenD d = .ok (.int hs.length) ∧ trD d = .ok (!hs.isEmpty)
theorem nums_tup (hs : List Int) : numsOf (.tup (hs.map D.int)) hs := ⟨rfl, by simp, by cases hs <;> rfl⟩
theorem nums_lst (hs : List Int) : numsOf (.lst (hs.map D.int)) hs := ⟨rfl, by simp, by cases hs <;> rfl⟩
/-- where a walk goes out, what is left begins below nought or is empty -/
theorem walkL_out (t : Tb) : ∀ (hs L : List Int) (u : Nat), (walkL t L hs u).1 = 1 → hs.drop ((walkL t L hs u).2.1 - u) = [] ∨ ∃ h r, hs.drop ((walkL t L hs u).2.1 - u) = h :: r ∧ h < 0
  | [], L, u, _ => .inl (by simp)
  | h :: hs, L, u, e => by
    unfold walkL at e ⊢
    by_cases c0 : h < 0
    · rw [if_pos c0]
      exact .inr ⟨h, hs, by simp, c0⟩
    rw [if_neg c0] at e ⊢
    cases hg : tget t h with
    | none => rw [hg] at e; cases e
    | some c =>
      rw [hg] at e
      simp only at e ⊢
      cases hop : openL L c with
      | nil => rw [hop] at e; cases e
      | cons y r =>
        rw [hop] at e
        simp only at e ⊢
        by_cases cc : r ≠ [] ∨ y ∈ L
        · rw [if_pos cc] at e; cases e
        · rw [if_neg cc] at e ⊢
          have ih := walkL_out t hs (L ++ [y]) (u + 1) e
          have hu := (walkL_used t hs (L ++ [y]) (u + 1)).1
          rw [show (walkL t (L ++ [y]) hs (u + 1)).2.1 - u = (walkL t (L ++ [y]) hs (u + 1)).2.1 - (u + 1) + 1 from by omega, List.drop_succ_cons]
          exact ih
/-- groups of at most so many -/
def GsB (M : Nat) (gs : List (Int × List Int)) : Prop := gs.length ≤ M ∧ ∀ g ∈ gs, g.2.length ≤ M
theorem lastG_some {M : Nat} (hM : M < sizeLine) (x : Int) : ∀ gs : List (Int × List Int), gs ≠ [] → (∀ g ∈ gs, g.2.length ≤ M) → ∃ gs', lastG gs x = some gs' ∧ gs'.length = gs.length ∧ ∀ g ∈ gs', g.2.length ≤ M + 1
  | [], h, _ => absurd rfl h
  | [(k, hs)], _, h => by
    have h1 := h (k, hs) (List.mem_singleton.mpr rfl)
    refine ⟨[(k, hs ++ [x])], if_pos (by simp only at h1; omega), rfl, fun g hg => ?_⟩
    rw [List.mem_singleton] at hg
    subst hg
    simp only at h1
    simp; omega
  | g :: g2 :: gs, _, h => by
    obtain ⟨gs', e1, e2, e3⟩ := lastG_some hM x (g2 :: gs) (by simp) fun q hq => h q (List.mem_cons_of_mem _ hq)
    refine ⟨g :: gs', ?_, by simp [e2], fun q hq => ?_⟩
    · show (lastG (g2 :: gs) x).map (g :: ·) = _
      rw [e1]; rfl
    · rcases List.mem_cons.mp hq with z | z
      · subst z; have := h q (List.mem_cons_self ..); omega
      · exact e3 q z
theorem partS_some {M : Nat} (hM : M < sizeLine) {gs : List (Int × List Int)} (hg : GsB M gs) (h : Int) (h1 : h < 0 ∨ gs ≠ []) : ∃ gs', partS (some gs) h = some gs' ∧ gs' ≠ [] ∧ GsB (M + 1) gs' := by
  unfold partS
  by_cases c : h < 0
  · refine ⟨gs ++ [(-h, [])], by simp [c], by simp, ?_, fun g hh => ?_⟩
    · have := hg.1; simp; omega
    · rcases List.mem_append.mp hh with z | z
      · have := hg.2 g z; omega
      · rw [List.mem_singleton] at z; subst z; simp
  · have hne : gs ≠ [] := h1.resolve_left c
    obtain ⟨gs', e1, e2, e3⟩ := lastG_some hM h gs hne hg.2
    refine ⟨gs', by simp [c, e1], fun z => hne (List.length_eq_zero_iff.mp (by rw [← e2, z]; rfl)), by rw [e2]; have := hg.1; omega, e3⟩
theorem parts_some : ∀ (hs : List Int) (M : Nat) (gs : List (Int × List Int)), M + hs.length < sizeLine → GsB M gs → (gs ≠ [] ∨ hs = [] ∨ ∃ h r, hs = h :: r ∧ h < 0) → ∃ gs', hs.foldl partS (some gs) = some gs' ∧ GsB (M + hs.length) gs'
  | [], M, gs, _, hg, _ => ⟨gs, rfl, hg⟩
  | h :: hs, M, gs, hM, hg, hc => by
    rw [List.length_cons] at hM
    have h1 : h < 0 ∨ gs ≠ [] := by
      rcases hc with z | z | ⟨a, r, z, z2⟩
      · exact .inr z
      · cases z
      · cases z; exact .inl z2
    obtain ⟨g1, e1, e2, e3⟩ := partS_some (by omega) hg h h1
    obtain ⟨g2, e4, e5⟩ := parts_some hs (M + 1) g1 (by omega) e3 (.inl e2)
    refine ⟨g2, by rw [List.foldl_cons, e1, e4], ?_⟩
    rw [List.length_cons, show M + (hs.length + 1) = M + 1 + hs.length from by omega]
    exact e5
theorem partL_some {hs : List Int} (hl : hs.length ≤ 3000) (h : hs = [] ∨ ∃ a r, hs = a :: r ∧ a < 0) : ∃ gs, partL hs = some gs ∧ GsB hs.length gs := by
  have hb := big
  obtain ⟨gs, e1, e2⟩ := parts_some hs 0 [] (by omega) ⟨Nat.le_refl _, by simp⟩ (.inr h)
  rw [Nat.zero_add] at e2
  exact ⟨gs, e1, e2⟩
theorem partS_none (hs : List Int) : hs.foldl partS none = none := by
  induction hs with
  | nil => rfl
  | cons h hs ih => rw [List.foldl_cons]; exact ih
/-- a loop that makes groups -/
theorem part_loop {b : Bool} {i j : Nat} {body : List Sl → SO} (st : List (Int × List Int) → Sl → List Sl) (hput : ∀ gs a (h : Int), (Tg.one j).put (.int h) (st gs a) = .ok (st gs (.fz (.int h))))
    (hbody : ∀ gs (h : Int) gs', gs.length < sizeLine → partS (some gs) h = some gs' → body (st gs (.fz (.int h))) = .nx (st gs' (.fz (.int h)))) :
    ∀ (hs : List Int) (gs gs' : List (Int × List Int)) (a : Sl), gs.length + hs.length < sizeLine → hs.foldl partS (some gs) = some gs' → ∃ a', loopM (.one j) body (hs.map D.int) (st gs a) = .nx (st gs' a')
  | [], gs, gs', a, _, e => by cases e; exact ⟨a, rfl⟩
  | h :: hs, gs, gs', a, hl, e => by
    rw [List.foldl_cons] at e
    rw [List.length_cons] at hl
    cases e1 : partS (some gs) h with
    | none => rw [e1, partS_none] at e; cases e
    | some g1 =>
      rw [e1] at e
      have hl1 : g1.length ≤ gs.length + 1 := by
        unfold partS at e1
        by_cases c : h < 0
        · simp [c] at e1; subst e1; simp
        · simp [c] at e1
          have : ∀ (gs : List (Int × List Int)) g1, lastG gs h = some g1 → g1.length = gs.length := by
            intro gs
            induction gs with
            | nil => intro g1 h; cases h
            | cons g gs ih =>
              intro g1 hh
              cases gs with
              | nil =>
                obtain ⟨k, q⟩ := g
                unfold lastG at hh
                split at hh
                · cases hh; rfl
                · cases hh
              | cons g2 gs =>
                have hh : (lastG (g2 :: gs) h).map (g :: ·) = some g1 := hh
                cases z : lastG (g2 :: gs) h with
                | none => rw [z] at hh; cases hh
                | some w => rw [z] at hh; cases hh; simp [ih w z]
          rw [this gs g1 e1]; omega
      obtain ⟨a', e2⟩ := part_loop (b := b) (i := i) st hput hbody hs g1 gs' (.fz (.int h)) (by omega) e
      refine ⟨a', ?_⟩
      rw [List.map_cons, loop_cons_nx (hput gs a h) (hbody gs h g1 (by omega) e1)]
      exact e2
theorem mGrpT_eq {i : Nat} {m : List Sl → R D} {S : List Sl} {gs : List (Int × List Int)} {k : Int} (h : S[i]? = some (.og false gs)) (hm : m S = .ok (.int k)) (hl : gs.length < sizeLine) : mGrpT i m S = .nx (S.set i (.og false (gs ++ [(k, [])]))) := by
  unfold mGrpT
  rw [h]
  simp only
  unfold mGrp
  rw [h]
  simp only [hm, toS_ok, if_pos hl]
theorem mGrpL_eq {i : Nat} {m : List Sl → R D} {S : List Sl} {gs : List (Int × List Int)} {k : Int} (h : S[i]? = some (.og true gs)) (hm : m S = .ok (.int k)) (hl : gs.length < sizeLine) : mGrpL i m S = .nx (S.set i (.og true (gs ++ [(k, [])]))) := by
  unfold mGrpL
  rw [h]
  simp only
  unfold mGrp
  rw [h]
  simp only [hm, toS_ok, if_pos hl]
theorem mGApp_eq {i : Nat} {m1 m2 m : List Sl → R D} {S : List Sl} {b : Bool} {gs gs' : List (Int × List Int)} {x : Int} (h : S[i]? = some (.og b gs)) (h1 : m1 S = .ok (.int (-1))) (h2 : m2 S = .ok (.int 1)) (hm : m S = .ok (.int x)) (hg : lastG gs x = some gs') : mGApp i m1 m2 m S = .nx (S.set i (.og b gs')) := by
  have hne : gs.isEmpty = false := by cases gs with
    | nil => cases hg
    | cons _ _ => rfl
  unfold mGApp
  rw [h]
  simp only [hne, h1, h2, hm, toS_ok, hg, isI]
  rfl
theorem okPy_wtup {s : Str} (hs : PyData.strOk s = true) (u : Nat) : okPy (wtup s u) = true :=
  (okN_tup (n := 0) (okA_cons (okN_str 0 hs) (okA_cons (okN_int 0 _) (okA_nil 0)))).py (by decide)
theorem stS_ok (n : Nat) : PyData.strOk (stS n) = true := by
  unfold stS
  split <;> decide +kernel
theorem stS_eq (n : Nat) : (stS n = ("ended" : Str)) = (n ≠ 0 ∧ n ≠ 1) := by
  unfold stS
  split
  · simp; decide +kernel
  · simp; decide +kernel
  · rename_i h1 h2; simp; exact ⟨h1, h2⟩
theorem eq_wtup (n u v : Nat) : eqD (wtup (stS n) u) (wtup "ended" v) = .ok (.bl (decide ((n ≠ 0 ∧ n ≠ 1) ∧ u = v))) := by
  show (if (okPy (wtup (stS n) u) && okPy (wtup "ended" v)) = true then R.ok (D.bl (eqvD (wtup (stS n) u) (wtup "ended" v))) else .bad) = _
  rw [okPy_wtup (stS_ok n), okPy_wtup (by decide +kernel), if_pos (show (true && true) = true from rfl)]
  congr 2
  show PyData.eqv (.tuple [.str (stS n), .int (u : Int)]) (.tuple [.str "ended", .int (v : Int)]) = _
  simp only [PyData.eqv, PyData.eqvAll]
  rw [Bool.eq_iff_iff]
  simp [stS_eq]
  intro _ _; constructor <;> intro h <;> omega
theorem walkL_st (t : Tb) : ∀ (hs L : List Int) (u : Nat), (walkL t L hs u).1 ≤ 2
  | [], L, u => by simp [walkL]
  | h :: hs, L, u => by
    unfold walkL
    split
    · simp
    · split
      · simp
      · split
        · simp
        · split
          · simp
          · exact walkL_st t hs _ _
theorem noDA_ints : ∀ l : List Int, noDA (l.map D.int) = true
  | [] => rfl
  | i :: l => by show (noD (.int i) && noDA (l.map D.int)) = true; rw [noDA_ints l]; rfl
theorem keysD_tE (t : Tb) : keysD (tE t) = (t.map (·.1)).map D.int := by simp [keysD, tE, Function.comp_def]
theorem tE_len (t : Tb) : (tE t).length = t.length := by simp [tE]
theorem mLcK_eq {i : Nat} {t : Tg} {vs : List Nat} {c : List Sl → R Bool} {m : List Sl → R D} {S : List Sl} {es : List (Int × D)} (ks : List Int) (p : Int → Bool) (hs : S[i]? = some (.fz (.dct es)) ∨ S[i]? = some (.od es)) (hk : keysD es = ks.map D.int) (hl : es.length ≤ sizeLine)
    (h : ∀ k ∈ ks, ∃ S1, t.put (.int k) (wipeS (S.set i (.fz (.dct es))) vs) = .ok S1 ∧ c S1 = .ok (p k) ∧ (p k = true → m S1 = .ok (.int k))) : mLcK i t vs c m S = .ok ((ks.filter p).map D.int) := by
  unfold mLcK
  have e := lcM_eq (t := t) (c := c) (m := m) (S := wipeS (S.set i (.fz (.dct es))) vs) D.int D.int p ks h
  rcases hs with hs | hs <;> rw [hs] <;> simp only [if_pos hl, hk, e, noDA_ints, if_true]
theorem sorted_ints (l : List Int) : sortedD (.lst (l.map D.int)) = .ok ((srt l).map D.int) := by
  simp only [sortedD, ints_of]
theorem want_mem {t : Tb} {first k : Int} (h : k ∈ wantL t first) : ∃ c, tget t k = some c ∧ -first ∈ c := by
  unfold wantL at h
  rw [List.mem_filter] at h
  obtain ⟨_, h⟩ := h
  cases e : tget t k with
  | none => rw [e] at h; cases h
  | some c => rw [e] at h; exact ⟨c, rfl, of_decide_eq_true h⟩
theorem keys_get {t : Tb} {k : Int} (h : k ∈ t.map (·.1)) : ∃ c, tget t k = some c := by
  obtain ⟨⟨a, c⟩, h1, rfl⟩ := List.mem_map.mp h
  exact tget_of_mem h1
theorem neg_both {c : List Int} (h0 : 0 ∉ c) (hb : bothL c = false) : relT (madeZ (c.map fun l => -l)) (c.map fun l => -l) := by
  refine relT_made _ (fun z => ?_) fun l hl hm => ?_
  · obtain ⟨a, ha, e⟩ := List.mem_map.mp z
    exact h0 (by have : a = 0 := by omega
                 rw [this] at ha; exact ha)
  · obtain ⟨a, ha, rfl⟩ := List.mem_map.mp hl
    obtain ⟨b, hb2, e⟩ := List.mem_map.mp hm
    have : b = -a := by omega
    subst this
    have : bothL c = true := List.any_eq_true.mpr ⟨a, ha, decide_eq_true hb2⟩
    rw [hb] at this; cases this
theorem runM_ok {n np : Nat} {m : List Sl → SO} {S S' : List Sl} {d : D} (h : m (S ++ List.replicate (n - np) Sl.un) = .rs d S') (hl : np ≤ S'.length) : runM n np m S = .ok d (keepS np S') := by
  unfold runM
  rw [h]
  simp only [if_pos hl]
theorem runM_nx {n np : Nat} {m : List Sl → SO} {S S' : List Sl} (h : m (S ++ List.replicate (n - np) Sl.un) = .nx S') (hl : np ≤ S'.length) : runM n np m S = .ok .non (keepS np S') := by
  unfold runM
  rw [h]
  simp only [if_pos hl]
theorem runM_ex {n np : Nat} {m : List Sl → SO} {S S' : List Sl} {e : Exn} (h : m (S ++ List.replicate (n - np) Sl.un) = .ex e S') (hl : np ≤ S'.length) : runM n np m S = .exc e (keepS np S') := by
  unfold runM
  rw [h]
  simp only [if_pos hl]
theorem md_nat (m : Int) {n : Nat} (h : 0 < n) : ∃ k : Nat, m % (n : Int) = (k : Int) ∧ k < n := by
  have h1 := Int.emod_nonneg m (b := (n : Int)) (by omega)
  have h2 := Int.emod_lt_of_pos m (b := (n : Int)) (by omega)
  exact ⟨(m % (n : Int)).toNat, by omega, by omega⟩
theorem mPop_eq {i : Nat} {mk : List Sl → R D} {S : List Sl} {es : List (Int × D)} {k : Int} (h : S[i]? = some (.od es)) (hk : mk S = .ok (.int k)) : mPop i mk S = .nx (S.set i (.od (dropD es k))) := by
  unfold mPop
  rw [h]
  simp only [hk, toS_ok]
end DL
/-! What the program's defs of following compute: hints walked. -/
namespace DL
open PySem L2

theorem wbody {t : Tb} {x : List (Int × Int)} {L : List Int} (ht : TbOk t) (hr : relT x L) (hx : x.length ≤ 50000) (hd b : Sl) (u : Nat) (h : Int) :
    b0_walked [.fz (.dct (tE t)), .pd 1 (dE x), hd, .fz (.int (u : Int)), .fz (.int h), b] =
      if h < 0 then .rs (wtup "out" u) [.fz (.dct (tE t)), .pd 1 (dE x), hd, .fz (.int (u : Int)), .fz (.int h), b] else
      match tget t h with
      | none => .rs (wtup "wrong" u) [.fz (.dct (tE t)), .pd 1 (dE x), hd, .fz (.int (u : Int)), .fz (.int h), b]
      | some c => match openL L c with
        | [] => .rs (wtup "ended" (u + 1)) [.fz (.dct (tE t)), .pd 1 (dE x), hd, .fz (.int ((u + 1 : Nat) : Int)), .fz (.int h), .fz (.lst [])]
        | y :: r => if r ≠ [] ∨ y ∈ L then .rs (wtup "wrong" (u + 1)) [.fz (.dct (tE t)), .pd 1 (dE x), hd, .fz (.int ((u + 1 : Nat) : Int)), .fz (.int h), .fz (.lst ((y :: r).map D.int))]
          else .nx [.fz (.dct (tE t)), .pd 1 (dE (putZ x (y.natAbs : Int) y)), hd, .fz (.int ((u + 1 : Nat) : Int)), .fz (.int h), .fz (.lst ((y :: r).map D.int))] := by
  have hb := big
  unfold b0_walked
  by_cases c0 : h < 0
  · rw [if_pos c0]
    refine seq_rs ?_
    simp [c0, lim2, wtup]
  rw [if_neg c0]
  refine seq_nx (S1 := [.fz (.dct (tE t)), .pd 1 (dE x), hd, .fz (.int (u : Int)), .fz (.int h), b]) (by simp [c0]) ?_
  cases hg : tget t h with
  | none =>
    refine seq_rs ?_
    have hk : keyD (tE t) h = none := by rw [keyD_tE, hg]; rfl
    simp [notInD, hk, lim2, wtup]
  | some c =>
    have hk : keyD (tE t) h = some (cD c) := by rw [keyD_tE, hg]; rfl
    obtain ⟨hz, hl⟩ := ht.at hg
    have ho := fopened hr hz hl
    simp only
    refine seq_nx (S1 := [.fz (.dct (tE t)), .pd 1 (dE x), hd, .fz (.int (u : Int)), .fz (.int h), b]) (by simp [notInD, hk]) ?_
    refine seq_nx (S1 := [.fz (.dct (tE t)), .pd 1 (dE x), hd, .fz (.int (u : Int)), .fz (.int h), .fz (.lst ((openL L c).map D.int))]) (by simp [hk, ho, scalL_ints]) ?_
    refine seq_nx (S1 := [.fz (.dct (tE t)), .pd 1 (dE x), hd, .fz (.int ((u + 1 : Nat) : Int)), .fz (.int h), .fz (.lst ((openL L c).map D.int))]) (by simp) ?_
    have hm := fun l => mem_openL (L := L) (c := c) (l := l)
    cases hop : openL L c with
    | nil =>
      refine seq_rs ?_
      simp [lim2, wtup]
    | cons y r =>
      rw [hop] at hm
      have hyc := (hm y).mp (List.mem_cons_self ..)
      have hy0 : y ≠ 0 := fun e => hz (e ▸ hyc.1)
      have a0 : atI ((y :: r).map D.int) 0 = some (.int y) := atI_nat (j := 0) rfl
      refine seq_nx (S1 := [.fz (.dct (tE t)), .pd 1 (dE x), hd, .fz (.int ((u + 1 : Nat) : Int)), .fz (.int h), .fz (.lst ((y :: r).map D.int))]) (by simp) ?_
      have hit := fis_true hr hy0
      by_cases cr : r = []
      · subst cr
        by_cases cy : y ∈ L
        · simp only [cy, or_true, if_true]
          refine seq_rs ?_
          simp only [List.map_cons, List.map_nil] at a0
          simp [a0, hit, cy, lim2, wtup, scalD]
        · simp only [cy, or_false, if_false, ne_eq, not_true_eq_false]
          simp only [List.map_cons, List.map_nil] at a0
          refine seq_nx (S1 := [.fz (.dct (tE t)), .pd 1 (dE x), hd, .fz (.int ((u + 1 : Nat) : Int)), .fz (.int h), .fz (.lst [.int y])]) (by simp [a0, hit, cy, lim2, wtup, scalD]) ?_
          rw [mPut_eqP (es := dE x) (k := (y.natAbs : Int)) (d := .int y) rfl (by simp [a0]) (by simp [a0, abs_nat]) (by rw [dE_len]; omega), putD_dE]
          rfl
      · simp only [ne_eq, cr, not_false_eq_true, true_or, if_true]
        refine seq_rs ?_
        have : 0 < r.length := List.length_pos_iff.mpr cr
        have h2 : (1 : Int) < (r.length : Int) + 1 := by omega
        simp [lim2, wtup, h2]
end DL
/-! What the program's defs of following compute: a whole walk. -/
namespace DL
open PySem L2

theorem wloop {t : Tb} (ht : TbOk t) (hd : Sl) : ∀ (hs : List Int) (x : List (Int × Int)) (L : List Int) (u : Nat) (a b : Sl), relT x L → x.length + hs.length ≤ 40000 →
    ∃ x', relT x' (walkL t L hs u).2.2 ∧ x'.length ≤ x.length + hs.length ∧
      ((∃ a' b', loopM (.one 4) b0_walked (hs.map D.int) [.fz (.dct (tE t)), .pd 1 (dE x), hd, .fz (.int (u : Int)), a, b] = .nx [.fz (.dct (tE t)), .pd 1 (dE x'), hd, .fz (.int ((walkL t L hs u).2.1 : Int)), a', b'] ∧ (walkL t L hs u).1 = 1) ∨
       (∃ u' a' b', loopM (.one 4) b0_walked (hs.map D.int) [.fz (.dct (tE t)), .pd 1 (dE x), hd, .fz (.int (u : Int)), a, b] = .rs (wtup (stS (walkL t L hs u).1) (walkL t L hs u).2.1) [.fz (.dct (tE t)), .pd 1 (dE x'), hd, u', a', b']))
  | [], x, L, u, a, b, hr, _ => ⟨x, hr, Nat.le_refl _, .inl ⟨a, b, rfl, rfl⟩⟩
  | h :: hs, x, L, u, a, b, hr, hx => by
    have hw := wbody ht hr (by simp at hx; omega) hd b u h
    have hput : (Tg.one 4).put (.int h) [.fz (.dct (tE t)), .pd 1 (dE x), hd, .fz (.int (u : Int)), a, b] = .ok [.fz (.dct (tE t)), .pd 1 (dE x), hd, .fz (.int (u : Int)), .fz (.int h), b] := rfl
    rw [List.map_cons]
    unfold walkL
    by_cases c0 : h < 0
    · rw [if_pos c0] at hw
      rw [if_pos c0, loop_cons_rs hput hw]
      exact ⟨x, hr, by omega, .inr ⟨_, _, _, rfl⟩⟩
    rw [if_neg c0] at hw ⊢
    cases hg : tget t h with
    | none =>
      rw [hg] at hw
      simp only at hw ⊢
      rw [loop_cons_rs hput hw]
      exact ⟨x, hr, by omega, .inr ⟨_, _, _, rfl⟩⟩
    | some c =>
      rw [hg] at hw
      simp only at hw ⊢
      obtain ⟨hz, hl⟩ := ht.at hg
      have hm := fun l => mem_openL (L := L) (c := c) (l := l)
      cases hop : openL L c with
      | nil =>
        rw [hop] at hw
        simp only at hw ⊢
        rw [loop_cons_rs hput hw]
        exact ⟨x, hr, by omega, .inr ⟨_, _, _, rfl⟩⟩
      | cons y r =>
        rw [hop] at hw hm
        simp only at hw ⊢
        by_cases cc : r ≠ [] ∨ y ∈ L
        · rw [if_pos cc] at hw ⊢
          rw [loop_cons_rs hput hw]
          exact ⟨x, hr, by omega, .inr ⟨_, _, _, rfl⟩⟩
        · rw [if_neg cc] at hw ⊢
          rw [loop_cons_nx hput hw]
          have hyc := (hm y).mp (List.mem_cons_self ..)
          have hy0 : y ≠ 0 := fun e => hz (e ▸ hyc.1)
          have hp := putZ_len x (y.natAbs : Int) y
          obtain ⟨x', r1, r2, r3⟩ := wloop ht hd hs (putZ x (y.natAbs : Int) y) (L ++ [y]) (u + 1) (.fz (.int h)) (.fz (.lst ((y :: r).map D.int))) (hr.put hy0 hyc.2) (by simp at hx; omega)
          exact ⟨x', r1, by simp; omega, r3⟩
theorem fwalked {t : Tb} (ht : TbOk t) {d : D} {hs : List Int} (hd : numsOf d hs) {x : List (Int × Int)} {L : List Int} (hr : relT x L) (hx : x.length + hs.length ≤ 40000) :
    ∃ x', relT x' (walkL t L hs 0).2.2 ∧ x'.length ≤ x.length + hs.length ∧ f_walked [.fz (.dct (tE t)), .pd 1 (dE x), .fz d] = .ok (wtup (stS (walkL t L hs 0).1) (walkL t L hs 0).2.1) [.un, .pd 1 (dE x'), .un] := by
  obtain ⟨x', r1, r2, r3⟩ := wloop ht (.fz d) hs x L 0 .un .un hr hx
  refine ⟨x', r1, r2, ?_⟩
  have key : ∃ u' a' b', m_walked [.fz (.dct (tE t)), .pd 1 (dE x), .fz d, .un, .un, .un] = .rs (wtup (stS (walkL t L hs 0).1) (walkL t L hs 0).2.1) [.fz (.dct (tE t)), .pd 1 (dE x'), .fz d, u', a', b'] := by
    have hf : ∀ r, loopM (.one 4) b0_walked (hs.map D.int) [.fz (.dct (tE t)), .pd 1 (dE x), .fz d, .fz (.int 0), .un, .un] = r → mFor (.one 4) (mItems (getF 2)) b0_walked [.fz (.dct (tE t)), .pd 1 (dE x), .fz d, .fz (.int 0), .un, .un] = r := by
      intro r e
      rw [s_mFor]
      simp only [s_mItems, s_getFs, s_getF0, R.bind_ok, hd.1, toSL_ok]
      exact e
    rcases r3 with ⟨a', b', e, e2⟩ | ⟨u', a', b', e⟩
    · refine ⟨.fz (.int ((walkL t L hs 0).2.1 : Int)), a', b', seq_nx (S1 := [.fz (.dct (tE t)), .pd 1 (dE x), .fz d, .fz (.int 0), .un, .un]) rfl (seq_nx (hf _ e) ?_)⟩
      simp only [s2_walked, s_mRetS, s_aCons, s_aNil, s_aLim, s_cst, s_getFs, s_getF0, R.bind_ok, lim2, toS_ok, e2]
      rfl
    · exact ⟨u', a', b', seq_nx (S1 := [.fz (.dct (tE t)), .pd 1 (dE x), .fz d, .fz (.int 0), .un, .un]) rfl (seq_rs (hf _ e))⟩
  obtain ⟨u', a', b', key⟩ := key
  show runM 6 3 m_walked [.fz (.dct (tE t)), .pd 1 (dE x), .fz d] = _
  unfold runM
  rw [show ([Sl.fz (.dct (tE t)), .pd 1 (dE x), .fz d] ++ List.replicate (6 - 3) Sl.un) = [.fz (.dct (tE t)), .pd 1 (dE x), .fz d, .un, .un, .un] from rfl, key]
  rfl
end DL
/-! Groups. -/
namespace DL
open PySem L2

theorem fparted {d : D} {hs : List Int} (hd : numsOf d hs) {gs : List (Int × List Int)} (hl : hs.length ≤ 3000) (hg : partL hs = some gs) : f_parted [d] = .ok (.lst (gs.map (grpD false))) := by
  have hb := big
  refine run_rt ?_
  show m_parted [.fz d, .un, .un] = _
  refine seq_nx (S1 := [.fz d, .ol [], .un]) (by simp [s0_parted, lim0']) ?_
  refine seq_nx (S1 := [.fz d, .og false [], .un]) rfl ?_
  obtain ⟨a', e⟩ := part_loop (b := false) (i := 1) (j := 2) (body := b0_parted) (fun gs a => [.fz d, .og false gs, a]) (fun _ _ _ => rfl) (by
    intro gs h gs' hl hp
    unfold partS at hp
    unfold b0_parted
    by_cases c : h < 0
    · simp [c] at hp
      subst hp
      have e := mGrpT_eq (i := 1) (m := m1 negD (getV 2)) (S := [.fz d, .og false gs, .fz (.int h)]) (gs := gs) (k := -h) rfl (by simp) hl
      rw [s_mIfS]
      simp only [s_m2, s_getV0, s_getVs, s_cst, R.bind_ok, s_ltI, c, decide_true, s_tBl, toSL_ok, if_true]
      exact e
    · simp [c] at hp
      have e := mGApp_eq (i := 1) (m1 := m1 negD (cst (.int 1))) (m2 := cst (.int 1)) (m := getV 2) (S := [.fz d, .og false gs, .fz (.int h)]) (gs := gs) (x := h) rfl (by simp) rfl rfl hp
      rw [s_mIfS]
      simp only [s_m2, s_getV0, s_getVs, s_cst, R.bind_ok, s_ltI, c, decide_false, s_tBl, toSL_ok, if_false, Bool.false_eq_true]
      exact e) hs [] gs .un (by simp; omega) hg
  refine seq_nx (S1 := _) (show mFor _ _ _ _ = _ by
    rw [s_mFor]
    simp only [s_mItems, s_getF0, R.bind_ok, hd.1, toSL_ok]
    exact e) ?_
  refine seq_nx (S1 := [.fz d, .fz (.lst (gs.map (grpD false))), a']) rfl ?_
  simp [s2_parted]
end DL
/-! What group_holds computes. -/
namespace DL
open PySem L2

theorem gloop {t : Tb} (T L0 : Sl) (first n : Int) (hd : D) (hs : List Int) (hn : numsOf hd hs) : ∀ (c : List Int) (x : List (Int × Int)) (L : List Int) (a b : Sl), 0 ∉ c → relT x L → x.length + c.length ≤ 30000 →
    (gtr first L c = none ∧ loopM (.one 5) b0_group_holds (c.map D.int) [T, .od (dE x), .fz (.int first), .fz (.int n), .fz hd, a, b] = .rt (.bl hs.isEmpty)) ∨
    (∃ L' x' a', gtr first L c = some L' ∧ relT x' L' ∧ x'.length ≤ x.length + c.length ∧ loopM (.one 5) b0_group_holds (c.map D.int) [T, .od (dE x), .fz (.int first), .fz (.int n), .fz hd, a, b] = .nx [T, .od (dE x'), .fz (.int first), .fz (.int n), .fz hd, a', b])
  | [], x, L, a, b, _, hr, _ => .inr ⟨L, x, a, rfl, hr, Nat.le_refl _, rfl⟩
  | l :: c, x, L, a, b, h0, hr, hx => by
    have hb := big
    have hz : l ≠ 0 := fun e => h0 (by rw [e]; exact List.mem_cons_self ..)
    have h0' : 0 ∉ c := fun e => h0 (List.mem_cons_of_mem _ e)
    have hput : (Tg.one 5).put (.int l) [T, .od (dE x), .fz (.int first), .fz (.int n), .fz hd, a, b] = .ok [T, .od (dE x), .fz (.int first), .fz (.int n), .fz hd, .fz (.int l), b] := rfl
    rw [List.map_cons]
    simp only [List.length_cons] at hx
    by_cases c1 : l = -first
    · have hbd : b0_group_holds [T, .od (dE x), .fz (.int first), .fz (.int n), .fz hd, .fz (.int l), b] = .nx [T, .od (dE x), .fz (.int first), .fz (.int n), .fz hd, .fz (.int l), b] := by
        simp [b0_group_holds, c1]
      have e : gtr first L (l :: c) = gtr first L c := by rw [gtr, if_pos c1]
      rw [loop_cons_nx hput hbd, e]
      rcases gloop (t := t) T L0 first n hd hs hn c x L (.fz (.int l)) b h0' hr (by omega) with h | ⟨L', x', a', h1, h2, h3, h4⟩
      · exact .inl h
      · exact .inr ⟨L', x', a', h1, h2, by simp; omega, h4⟩
    · have hit := fis_true hr hz
      by_cases c2 : l ∈ L
      · have hbd : b0_group_holds [T, .od (dE x), .fz (.int first), .fz (.int n), .fz hd, .fz (.int l), b] = .rt (.bl hs.isEmpty) := by
          simp [b0_group_holds, c1, hit, c2, scalD, hn.2.2]
        left
        refine ⟨by rw [gtr, if_neg c1, if_pos c2], ?_⟩
        rw [loopM, hput]; simp only [hbd]
      · have hpt := mPut_eq (i := 1) (mk := (fun S => ((aCons (getV 5) aNil) S).bind (on1 absD))) (m := m1 negD (getV 5)) (S := [T, .od (dE x), .fz (.int first), .fz (.int n), .fz hd, .fz (.int l), b]) (es := dE x) (k := (l.natAbs : Int)) (d := .int (-l)) rfl (by simp) (by simp [abs_nat]) (by rw [dE_len]; omega)
        have hbd : b0_group_holds [T, .od (dE x), .fz (.int first), .fz (.int n), .fz hd, .fz (.int l), b] = .nx [T, .od (dE (putZ x (l.natAbs : Int) (-l))), .fz (.int first), .fz (.int n), .fz hd, .fz (.int l), b] := by
          unfold b0_group_holds
          rw [s_mIfS]
          simp only [s_m2, s_getV0, s_getVs, s_m1, s_negI, R.bind_ok, s_neD, s_eqI, c1, decide_false, s_notD, Bool.not_false, s_tBl, toSL_ok, if_true]
          refine seq_nx (S1 := [T, .od (dE x), .fz (.int first), .fz (.int n), .fz hd, .fz (.int l), b]) (by simp [hit, c2, scalD]) ?_
          rw [hpt, putD_dE]
          rfl
        have hr2 : relT (putZ x (l.natAbs : Int) (-l)) (L ++ [-l]) := by
          have := hr.put (l := -l) (by omega) (by rw [Int.neg_neg]; exact c2)
          rw [Int.natAbs_neg] at this
          exact this
        have e : gtr first L (l :: c) = gtr first (L ++ [-l]) c := by rw [gtr, if_neg c1, if_neg c2]
        have hp := putZ_len x (l.natAbs : Int) (-l)
        rw [loop_cons_nx hput hbd, e]
        rcases gloop (t := t) T L0 first n hd hs hn c _ _ (.fz (.int l)) b h0' hr2 (by omega) with h | ⟨L', x', a', h1, h2, h3, h4⟩
        · exact .inl h
        · exact .inr ⟨L', x', a', h1, h2, by simp; omega, h4⟩
theorem fgroup_holds {t : Tb} (ht : TbOk t) {x : List (Int × Int)} {L : List Int} (hr : relT x L) {first n : Int} {hd : D} {hs : List Int} (hn : numsOf hd hs) (hx : x.length ≤ 20000) (hl : hs.length ≤ 3000) {c : List Int} (hc : tget t n = some c) :
    f_group_holds [.dct (tE t), .dct (dE x), .int first, .int n, hd] = .ok (.bl (groupL t L first n hs)) := by
  obtain ⟨hz, hlc⟩ := ht.at hc
  have hk : keyD (tE t) n = some (cD c) := by rw [keyD_tE, hc]; rfl
  refine run_rt ?_
  show m_group_holds [.fz (.dct (tE t)), .fz (.dct (dE x)), .fz (.int first), .fz (.int n), .fz hd, .un, .un] = _
  refine seq_nx (S1 := [.fz (.dct (tE t)), .od (dE x), .fz (.int first), .fz (.int n), .fz hd, .un, .un]) rfl ?_
  have hf : ∀ r, loopM (.one 5) b0_group_holds (c.map D.int) [.fz (.dct (tE t)), .od (dE x), .fz (.int first), .fz (.int n), .fz hd, .un, .un] = r → s1_group_holds [.fz (.dct (tE t)), .od (dE x), .fz (.int first), .fz (.int n), .fz hd, .un, .un] = r := by
    intro r e
    unfold s1_group_holds
    rw [s_mFor]
    simp only [s_mItems, s_m2, s_getV0, s_getVs, R.bind_ok, s_ixK, hk, optD, cD, s_itemsT, toSL_ok]
    exact e
  unfold groupL
  rw [hc]
  simp only
  rcases gloop (t := t) (.fz (.dct (tE t))) .un first n hd hs hn c x L .un .un hz hr (by omega) with ⟨h1, h2⟩ | ⟨L', x', a', h1, h2, h3, h4⟩
  · rw [h1]
    exact seq_rt (hf _ h2)
  · rw [h1]
    simp only
    refine seq_nx (hf _ h4) ?_
    obtain ⟨x2, w1, w2, w3⟩ := fwalked ht hn h2 (by omega)
    have hcall := mCallM_eq (i := 1) (f := f_walked) (m := aConsW (getF 0) (aHere 1 (aCons (getF 4) aNil))) (S := [.fz (.dct (tE t)), .od (dE x'), .fz (.int first), .fz (.int n), .fz hd, a', .un]) (d1 := [.dct (tE t)]) (d2 := [hd]) (s := .od (dE x')) (t := .pd 1 (dE x')) (t' := .pd 1 (dE x2)) (s' := .od (dE x2)) rfl rfl rfl w3 rfl rfl
    refine seq_nx (S1 := [.fz (.dct (tE t)), .od (dE x2), .fz (.int first), .fz (.int n), .fz hd, a', .fz (wtup (stS (walkL t L' hs 0).1) (walkL t L' hs 0).2.1)]) (by
      show mSetM 6 _ _ = _
      unfold mSetM
      rw [hcall]
      rfl) ?_
    have e9 := eq_wtup (walkL t L' hs 0).1 (walkL t L' hs 0).2.1 hs.length
    simp only [s3_group_holds, s_mRet, s_m2, s_getVs, s_getV0, R.bind_ok, s_aLim, s_aCons, s_aNil, s_cst, s_on1, hn.2.1, lim2]
    rw [show D.tup [.str "ended", .int (hs.length : Int)] = wtup "ended" hs.length from rfl, e9, toS_ok]
    have hst := walkL_st t hs L' 0
    congr 3
    rw [eq_iff_iff]
    constructor
    · rintro ⟨⟨a, b⟩, c⟩; exact ⟨by omega, c⟩
    · rintro ⟨a, c⟩; exact ⟨⟨by omega, by omega⟩, c⟩
end DL
/-! What groups_hold and follows compute. -/
namespace DL
open PySem L2

theorem fgroups_hold {t : Tb} (ht : TbOk t) {x : List (Int × Int)} {L : List Int} (hr : relT x L) {first : Int} {hd : D} {hs : List Int} (hn : numsOf hd hs) (hx : x.length ≤ 20000) (hl : hs.length ≤ 3000) {gs : List (Int × List Int)} (hg : partL hs = some gs) (hB : GsB hs.length gs) :
    f_groups_hold [.dct (tE t), .dct (dE x), .int first, hd] = .ok (.bl (decide (srt (gs.map (·.1)) = srt (wantL t first)) && gs.all fun g => groupL t L first g.1 g.2)) := by
  have hb := big
  have hp := fparted hn hl hg
  refine run_rt ?_
  show m_groups_hold [.fz (.dct (tE t)), .fz (.dct (dE x)), .fz (.int first), .fz hd, .un, .un, .un, .un] = _
  refine seq_nx (S1 := [.fz (.dct (tE t)), .fz (.dct (dE x)), .fz (.int first), .fz hd, .fz (.lst (gs.map (grpD false))), .un, .un, .un]) (by simp [s0_groups_hold, hp]) ?_
  have hw : mLcK 0 (.one 6) [6] c0_groups_hold e0_groups_hold [.fz (.dct (tE t)), .fz (.dct (dE x)), .fz (.int first), .fz hd, .fz (.lst (gs.map (grpD false))), .un, .un, .un] = .ok ((wantL t first).map D.int) := by
    refine mLcK_eq (t.map (·.1)) (fun k => match tget t k with | some c => decide (-first ∈ c) | none => false) (.inl rfl) (keysD_tE t) (by rw [tE_len]; have := ht.n; omega) fun k hk => ⟨_, rfl, ?_, fun _ => ?_⟩
    · obtain ⟨c, hc⟩ := keys_get hk
      have hk2 : keyD (tE t) k = some (cD c) := by rw [keyD_tE, hc]; rfl
      simp only [c0_groups_hold, wipeS, List.set_cons_zero, List.set_cons_succ, s_m2, s_m1, s_getV0, s_getVs, s_negI, R.bind_ok, s_ixK, hk2, optD, cD, in_tup, s_tBl, hc]
    · simp [e0_groups_hold, wipeS]
  refine seq_nx (S1 := [.fz (.dct (tE t)), .fz (.dct (dE x)), .fz (.int first), .fz hd, .fz (.lst (gs.map (grpD false))), .fz (.lst ((wantL t first).map D.int)), .un, .un]) (by
    show mSet 5 _ _ = _
    rw [s_mSet, hw]
    rfl) ?_
  have hl1 : gs.length ≤ sizeLine := by have := hB.1; omega
  have h1 : mLc (.one 7) [7] (mItems (getV 4)) mYes e1_groups_hold [.fz (.dct (tE t)), .fz (.dct (dE x)), .fz (.int first), .fz hd, .fz (.lst (gs.map (grpD false))), .fz (.lst ((wantL t first).map D.int)), .un, .un] = .ok ((gs.map (·.1)).map D.int) := by
    rw [List.map_map]
    refine mLc_map gs (grpD false) _ rfl hl1 fun g _ => ⟨_, rfl, ?_⟩
    have a0 : atI [D.int g.1, .lst (g.2.map D.int)] 0 = some (.int g.1) := atI_nat (j := 0) rfl
    simp [e1_groups_hold, wipeS, grpD, a0]
  have hne : neD (.lst ((srt (gs.map (·.1))).map D.int)) (.lst ((srt (wantL t first)).map D.int)) = .ok (.bl (!decide (srt (gs.map (·.1)) = srt (wantL t first)))) := by rw [s_neD, eq_iD]; rfl
  by_cases c : srt (gs.map (·.1)) = srt (wantL t first)
  · have hne' : neD (.lst ((srt (gs.map (·.1))).map D.int)) (.lst ((srt (wantL t first)).map D.int)) = .ok (.bl false) := by rw [hne, decide_eq_true c]; rfl
    refine seq_nx (S1 := [.fz (.dct (tE t)), .fz (.dct (dE x)), .fz (.int first), .fz hd, .fz (.lst (gs.map (grpD false))), .fz (.lst ((wantL t first).map D.int)), .un, .un]) (by
      show mIfS _ _ _ _ = _
      rw [s_mIfS]
      simp only [s_m2, s_aCons, h1, R.bind_ok, s_aNil, s_onN, sorted_ints, s_getV0, s_getVs, hne', s_tBl, toSL_ok, s_mSkip]
      rfl) ?_
    have h2 : mLc (.one 7) [7] (mItems (getV 4)) mYes e2_groups_hold [.fz (.dct (tE t)), .fz (.dct (dE x)), .fz (.int first), .fz hd, .fz (.lst (gs.map (grpD false))), .fz (.lst ((wantL t first).map D.int)), .un, .un] = .ok (gs.map fun g => .bl (groupL t L first g.1 g.2)) := by
      refine mLc_map gs (grpD false) _ rfl hl1 fun g hg => ⟨_, rfl, ?_⟩
      have a0 : atI [D.int g.1, .lst (g.2.map D.int)] 0 = some (.int g.1) := atI_nat (j := 0) rfl
      have a1 : atI [D.int g.1, .lst (g.2.map D.int)] 1 = some (.lst (g.2.map D.int)) := atI_nat (j := 1) rfl
      have hm : g.1 ∈ wantL t first := by
        rw [← (srt_perm _).mem_iff, ← c, (srt_perm _).mem_iff]
        exact List.mem_map.mpr ⟨g, hg, rfl⟩
      obtain ⟨cl, hcl, _⟩ := want_mem hm
      have hgl := hB.2 g hg
      have hgh := fgroup_holds ht hr (first := first) (nums_lst g.2) hx (by omega) hcl
      simp [e2_groups_hold, wipeS, grpD, a0, a1, hgh]
    show s3_groups_hold _ = _
    simp only [s3_groups_hold, s_mRet, s_aCons, h2, R.bind_ok, s_aNil, s_on1, all_map, toS_ok, decide_eq_true c, Bool.true_and]
  · have hne' : neD (.lst ((srt (gs.map (·.1))).map D.int)) (.lst ((srt (wantL t first)).map D.int)) = .ok (.bl true) := by rw [hne, decide_eq_false c]; rfl
    rw [decide_eq_false c, Bool.false_and]
    refine seq_rt ?_
    show mIfS _ _ _ _ = _
    rw [s_mIfS]
    simp only [s_m2, s_aCons, h1, R.bind_ok, s_aNil, s_onN, sorted_ints, s_getV0, s_getVs, hne', s_tBl, toSL_ok]
    rfl
end DL
/-! What follows computes. -/
namespace DL
open PySem L2

theorem ffollows {t : Tb} (ht : TbOk t) {c hs : List Int} (h0 : 0 ∉ c) (hc : c.length ≤ 1000) (hl : hs.length ≤ 2000) : f_follows [.dct (tE t), cD c, .tup (hs.map D.int)] = .ok (.bl (followsL t c hs)) := by
  have hb := big
  have hbo := fhas_both c hc
  refine run_rt ?_
  show m_follows [.fz (.dct (tE t)), .fz (cD c), .fz (.tup (hs.map D.int)), .un, .un, .un] = _
  unfold followsL
  by_cases cb : bothL c = true
  · rw [if_pos cb]
    rw [cb] at hbo
    refine seq_rt ?_
    simp [s0_follows, hbo]
  rw [if_neg cb]
  have cb : bothL c = false := by simpa using cb
  rw [cb] at hbo
  refine seq_nx (S1 := [.fz (.dct (tE t)), .fz (cD c), .fz (.tup (hs.map D.int)), .un, .un, .un]) (by simp [s0_follows, hbo]) ?_
  have hm : mLc (.one 5) [5] (mItems (getV 1)) mYes e0_follows [.fz (.dct (tE t)), .fz (cD c), .fz (.tup (hs.map D.int)), .un, .un, .un] = .ok ((c.map fun l => -l).map D.int) := by
    rw [List.map_map]
    exact mLc_map c D.int _ rfl (by omega) fun l _ => ⟨_, rfl, by simp [e0_follows, wipeS]⟩
  have hmade := fmade (c.map fun l => -l) (by simp; omega)
  refine seq_nx (S1 := [.fz (.dct (tE t)), .fz (cD c), .fz (.tup (hs.map D.int)), .od (dE (madeZ (c.map fun l => -l))), .un, .un]) (by
    show mSetND 3 _ _ = _
    unfold mSetND
    simp only [s_aCons, hm, R.bind_ok, s_aNil, hmade, toND_od, toSL_ok]
    rfl) ?_
  have hr := neg_both h0 cb
  have hml := madeZ_len (c.map fun l => -l)
  rw [List.length_map] at hml
  obtain ⟨x2, w1, w2, w3⟩ := fwalked ht (nums_tup hs) hr (by omega)
  have hcall := mCallM_eq (i := 3) (f := f_walked) (m := aConsW (getF 0) (aHere 3 (aCons (getF 2) aNil))) (S := [.fz (.dct (tE t)), .fz (cD c), .fz (.tup (hs.map D.int)), .od (dE (madeZ (c.map fun l => -l))), .un, .un]) (d1 := [.dct (tE t)]) (d2 := [.tup (hs.map D.int)]) (s := .od (dE (madeZ (c.map fun l => -l)))) (t := .pd 1 (dE (madeZ (c.map fun l => -l)))) (t' := .pd 1 (dE x2)) (s' := .od (dE x2)) rfl rfl rfl w3 rfl rfl
  have hst := walkL_st t hs (c.map fun l => -l) 0
  have hout := walkL_out t hs (c.map fun l => -l) 0
  have hus := walkL_used t hs (c.map fun l => -l) 0
  generalize hW : walkL t (c.map fun l => -l) hs 0 = W at *
  obtain ⟨st, u, L'⟩ := W
  simp only at *
  refine seq_nx (S1 := [.fz (.dct (tE t)), .fz (cD c), .fz (.tup (hs.map D.int)), .od (dE x2), .fz (wtup (stS st) u), .un]) (by
    show mSetM 4 _ _ = _
    unfold mSetM
    rw [hcall]
    rfl) ?_
  have a0 : atI [D.str (stS st), .int (u : Int)] 0 = some (.str (stS st)) := atI_nat (j := 0) rfl
  have a1 : atI [D.str (stS st), .int (u : Int)] 1 = some (.int (u : Int)) := atI_nat (j := 1) rfl
  have e3 : s3_follows [.fz (.dct (tE t)), .fz (cD c), .fz (.tup (hs.map D.int)), .od (dE x2), .fz (wtup (stS st) u), .un] = if stS st = "ended" then .rt (.bl true) else .nx [.fz (.dct (tE t)), .fz (cD c), .fz (.tup (hs.map D.int)), .od (dE x2), .fz (wtup (stS st) u), .un] := by
    simp [s3_follows, wtup, a0]
  have e4 : s4_follows [.fz (.dct (tE t)), .fz (cD c), .fz (.tup (hs.map D.int)), .od (dE x2), .fz (wtup (stS st) u), .un] = if stS st = "wrong" ∨ c = [] then .rt (.bl false) else .nx [.fz (.dct (tE t)), .fz (cD c), .fz (.tup (hs.map D.int)), .od (dE x2), .fz (wtup (stS st) u), .un] := by
    have hcd : trD (cD c) = .ok (!c.isEmpty) := by cases c <;> rfl
    by_cases z : stS st = "wrong"
    · rw [z] at a0 ⊢
      simp [s4_follows, wtup, a0]
    · by_cases z2 : c = []
      · subst z2
        simp [s4_follows, wtup, a0, z, hcd]
      · have : c.isEmpty = false := by cases c <;> first | rfl | exact absurd rfl z2
        simp [s4_follows, wtup, a0, z, z2, hcd, this]
  have d1 : ¬ (("wrong" : Str) = "ended") := by decide +kernel
  have d2 : ¬ (("out" : Str) = "ended") := by decide +kernel
  have d3 : ¬ (("out" : Str) = "wrong") := by decide +kernel
  by_cases c2 : st = 2
  · subst c2
    rw [if_pos rfl]
    exact seq_rt (by rw [e3, if_pos (show stS 2 = "ended" from rfl)])
  rw [if_neg c2]
  by_cases c0 : st = 0
  · subst c0
    rw [if_pos rfl]
    refine seq_nx (by rw [e3, if_neg (show ¬ stS 0 = "ended" from d1)]) ?_
    exact seq_rt (by rw [e4, if_pos (show stS 0 = "wrong" ∨ _ from .inl rfl)])
  rw [if_neg c0]
  have c1 : st = 1 := by omega
  subst c1
  refine seq_nx (by rw [e3, if_neg (show ¬ stS 1 = "ended" from d2)]) ?_
  cases c with
  | nil => exact seq_rt (by rw [e4, if_pos (show stS 1 = "wrong" ∨ _ from .inr rfl)])
  | cons first r =>
    refine seq_nx (by rw [e4, if_neg (show ¬ (stS 1 = "wrong" ∨ first :: r = []) from fun z => by rcases z with z | z; exact d3 z; cases z)]) ?_
    have hl2 : (hs.drop u).length ≤ 3000 := by rw [List.length_drop]; omega
    obtain ⟨gs, hg, hB⟩ := partL_some hl2 (hout rfl)
    rw [hg]
    simp only
    have hgh := fgroups_hold ht w1 (first := first) (nums_tup (hs.drop u)) (by omega) hl2 hg hB
    have hc0 : atI ((first :: r).map D.int) 0 = some (.int first) := atI_nat (j := 0) rfl
    simp only [s5_follows, s_mRet, s_aCons, s_getV0, s_getVs, s_getV0d, R.bind_ok, s_m2, s_mSl, s_oSome, s_oNo, s_cst, cD, s_ixT, hc0, optD, s_aNil, wtup, a1, s_toI, s_slT, cutL_from, ← List.map_drop, hgh, scalD, toS_ok]
end DL
/-! What the program's Keeper does. -/
namespace DL
open PySem L2

theorem fkeeper {v : Int} {f : List (List Int)} (hf : f.length ≤ 1000) : f_Keeper___init__ [.ob (some 0) 0 [], .fz (.int v), .fz (fD f)] = .ok .non [.ob (some 0) 0 (kp (kst0 v f)), .un, .un] := by
  have hb := big
  have main : ∃ x, m_Keeper___init__ [.ob (some 0) 0 [], .fz (.int v), .fz (fD f), .un] = .nx [.ob (some 0) 0 (kp (kst0 v f)), .fz (.int v), .fz (fD f), x] := by
    have c0 : (0 : Nat) < 1000 := by decide
    have e0 := mFSet_eq (i := 0) (c := 0) (f := "variables") (j := some 0) (fs := []) (S := [.ob (some 0) 0 [], .fz (.int v), .fz (fD f), .un]) (m := getF 1) (d := .int v) rfl (by decide) rfl
    have e1 := mFSetND_eq (i := 0) (c := 0) (f := "table") (j := some 0) (fs := [("variables", .fz (.int v))]) (S := [.ob (some 0) 0 [("variables", .fz (.int v))], .fz (.int v), .fz (fD f), .un]) (m := fun _ => .ok []) (d := []) rfl (by simp) rfl
    have e2 := mFSet_eq (i := 0) (c := 0) (f := "top") (j := some 0) (fs := [("variables", .fz (.int v)), ("table", .od [])]) (S := [.ob (some 0) 0 [("variables", .fz (.int v)), ("table", .od [])], .fz (.int v), .fz (fD f), .un]) (m := fun S => ((aCons (getV 2) aNil) S).bind (on1 lenD)) (d := .int f.length) rfl (by simp) (by simp [fD_len])
    have e3 := mFSet_eq (i := 0) (c := 0) (f := "taken") (j := some 0) (fs := [("variables", .fz (.int v)), ("table", .od []), ("top", .fz (.int f.length))]) (S := [.ob (some 0) 0 [("variables", .fz (.int v)), ("table", .od []), ("top", .fz (.int f.length))], .fz (.int v), .fz (fD f), .un]) (m := cst (.int 0)) (d := .int 0) rfl (by simp) rfl
    have e4 := mFSet_eq (i := 0) (c := 0) (f := "refuted") (j := some 0) (fs := [("variables", .fz (.int v)), ("table", .od []), ("top", .fz (.int f.length)), ("taken", .fz (.int 0))]) (S := [.ob (some 0) 0 [("variables", .fz (.int v)), ("table", .od []), ("top", .fz (.int f.length)), ("taken", .fz (.int 0))], .fz (.int v), .fz (fD f), .un]) (m := cst (.bl false)) (d := .bl false) rfl (by simp) rfl
    obtain ⟨S', e, x, rfl⟩ := loop_nx (t := .one 3) (body := b0_Keeper___init__) (xs := List.range f.length) (S := [.ob (some 0) 0 (kp ⟨v, [], f.length, 0, false⟩), .fz (.int v), .fz (fD f), .un]) (fun i : Nat => D.int (i : Int))
      (fun pre S => ∃ x, S = [.ob (some 0) 0 (kp ⟨v, (List.range pre.length).map fun j => (succN j, f.getD j []), f.length, 0, false⟩), .fz (.int v), .fz (fD f), x]) (by
        rintro pre k post S hx ⟨x, rfl⟩
        obtain ⟨hk, hkv⟩ := range_split hx
        rw [hk]
        refine ⟨_, [.ob (some 0) 0 (kp ⟨v, (List.range (pre ++ [k]).length).map fun j => (succN j, f.getD j []), f.length, 0, false⟩), .fz (.int v), .fz (fD f), .fz (.int (k : Int))], rfl, .inl ?_, _, rfl⟩
        rw [List.length_append, hk, show [k].length = 1 from rfl]
        have e := mFPut_eq (i := 0) (c := 0) (f := "table") (j := some 0) (fs := kp ⟨v, (List.range k).map fun j => (succN j, f.getD j []), f.length, 0, false⟩) (S := [.ob (some 0) 0 (kp ⟨v, (List.range k).map fun j => (succN j, f.getD j []), f.length, 0, false⟩), .fz (.int v), .fz (fD f), .fz (.int (k : Int))]) (mk := m2 addD (getV 3) (cst (.int 1))) (m := fun S => ((aCons (m2 ixD (getV 2) (getV 3)) aNil) S).bind (on1 tupD)) (k := succN k) (d := cD (f.getD k [])) (es := tE ((List.range k).map fun j => (succN j, f.getD j []))) rfl (kp_table _) (by rw [tE_len]; simp; omega) (by simp; rfl) (by
          simp only [s_aCons, s_m2, s_getVs, s_getV0, R.bind_ok, fD_ix hkv, s_aNil, s_on1]
          rfl)
        show b0_Keeper___init__ [.ob (some 0) 0 (kp ⟨v, (List.range k).map fun j => (succN j, f.getD j []), f.length, 0, false⟩), .fz (.int v), .fz (fD f), .fz (.int (k : Int))] = _
        unfold b0_Keeper___init__
        rw [e, num_put succN_inj hkv, kp_put_table]
        rfl) ⟨_, rfl⟩
    refine ⟨x, ?_⟩
    refine seq_nx (S1 := [.ob (some 0) 0 [("variables", .fz (.int v))], .fz (.int v), .fz (fD f), .un]) e0 ?_
    refine seq_nx (S1 := [.ob (some 0) 0 [("variables", .fz (.int v)), ("table", .od [])], .fz (.int v), .fz (fD f), .un]) (by show mFSetND _ _ _ _ _ = _; rw [e1]; simp [putL]) ?_
    refine seq_nx (S1 := [.ob (some 0) 0 [("variables", .fz (.int v)), ("table", .od []), ("top", .fz (.int f.length))], .fz (.int v), .fz (fD f), .un]) (by show mFSet _ _ _ _ _ = _; rw [e2]; simp [putL]) ?_
    refine seq_nx (S1 := [.ob (some 0) 0 [("variables", .fz (.int v)), ("table", .od []), ("top", .fz (.int f.length)), ("taken", .fz (.int 0))], .fz (.int v), .fz (fD f), .un]) (by show mFSet _ _ _ _ _ = _; rw [e3]; simp [putL]) ?_
    refine seq_nx (S1 := [.ob (some 0) 0 (kp ⟨v, [], f.length, 0, false⟩), .fz (.int v), .fz (fD f), .un]) (by show mFSet _ _ _ _ _ = _; rw [e4]; simp [putL, kp, tE]) ?_
    show mFor _ _ _ _ = _
    rw [s_mFor]
    have : i0_Keeper___init__ [.ob (some 0) 0 (kp ⟨v, [], f.length, 0, false⟩), .fz (.int v), .fz (fD f), .un] = .ok ((List.range f.length).map fun i : Nat => D.int (i : Int)) := by
      simp only [i0_Keeper___init__, s_aCons, s_getVs, s_getV0, R.bind_ok, s_aNil, s_on1, fD_len, rng1_nat (show f.length ≤ 1000000 by omega)]
    rw [this, toSL_ok, e, List.length_range]
    rfl
  obtain ⟨x, main⟩ := main
  exact runM_nx (S := [.ob (some 0) 0 [], .fz (.int v), .fz (fD f)]) (n := 4) (np := 3) main (by simp)
theorem inV_abs (v : Int) (c : List Int) (h0 : 0 ∉ c) : (c.all fun l => decide (0 < (l.natAbs : Int)) && decide ((l.natAbs : Int) ≤ v)) = inV v c := by
  unfold inV
  rw [Bool.eq_iff_iff, List.all_eq_true, List.all_eq_true]
  constructor
  · intro h l hl
    have := h l hl
    simp only [Bool.and_eq_true, decide_eq_true_eq] at this ⊢
    exact this.2
  · intro h l hl
    have := h l hl
    have hz : l ≠ 0 := fun e => h0 (e ▸ hl)
    simp only [Bool.and_eq_true, decide_eq_true_eq] at this ⊢
    exact ⟨by omega, this⟩
theorem kgrow {k : Kst} (hk : TbOk k.t) (hkl : k.t.length < 1000) {n : Int} {c hs : List Int} (h0 : 0 ∉ c) (hc : c.length ≤ 1000) (hl : hs.length ≤ 2000) :
    f_Keeper_grow [.ob (some 0) 0 (kp k), .fz (.int n), .fz (cD c), .fz (cD hs)] = if k.fits n c hs = true then .ok .non [.ob (some 0) 0 (kp (k.grow n c)), .un, .un, .un] else .exc (.notRight (k.tk : Int)) [.ob (some 0) 0 (kp k), .un, .un, .un] := by
  have hb := big
  have hmap : mLc (.one 5) [5] (mItems (getV 2)) mYes e0_Keeper_grow [.ob (some 0) 0 (kp k), .fz (.int n), .fz (cD c), .fz (cD hs), .un, .un] = .ok (c.map fun l => .bl (decide (0 < (l.natAbs : Int)) && decide ((l.natAbs : Int) ≤ k.v))) := by
    refine mLc_map c D.int _ rfl (by omega) fun l hl => ⟨_, rfl, ?_⟩
    simp only [e0_Keeper_grow, wipeS, List.set_cons_zero, List.set_cons_succ, s_m3, s_cst, s_aCons, s_getVs, s_getV0, R.bind_ok, s_aNil, s_on1, s_absI, abs_nat, s_ltI, s_tBl, k_variables, s_leI]
    by_cases z : 0 < (l.natAbs : Int)
    · simp only [z, decide_true, if_true, Bool.true_and]
    · simp only [z, decide_false, Bool.false_eq_true, if_false, Bool.false_and]
  have hff := ffollows hk h0 hc hl
  rw [show D.tup (hs.map D.int) = cD hs from rfl] at hff
  have e0 : s0_Keeper_grow [.ob (some 0) 0 (kp k), .fz (.int n), .fz (cD c), .fz (cD hs), .un, .un] = .nx [.ob (some 0) 0 (kp k), .fz (.int n), .fz (cD c), .fz (cD hs), .fz (.bl (decide (k.top < n) && inV k.v c)), .un] := by
    unfold s0_Keeper_grow
    rw [s_mSet]
    simp only [s_mAnd2, s_m2, s_getVs, s_getV0, k_top, R.bind_ok, s_gtI, s_trB, s_aCons, hmap, s_aNil, s_on1, all_map, inV_abs k.v c h0]
    by_cases z : k.top < n
    · simp [z]
    · simp [z]
  have e1 : s1_Keeper_grow [.ob (some 0) 0 (kp k), .fz (.int n), .fz (cD c), .fz (cD hs), .fz (.bl (decide (k.top < n) && inV k.v c)), .un] = if k.fits n c hs = true then .nx [.ob (some 0) 0 (kp k), .fz (.int n), .fz (cD c), .fz (cD hs), .fz (.bl (decide (k.top < n) && inV k.v c)), .un] else .ex (.notRight (k.tk : Int)) [.ob (some 0) 0 (kp k), .fz (.int n), .fz (cD c), .fz (cD hs), .fz (.bl (decide (k.top < n) && inV k.v c)), .un] := by
    unfold s1_Keeper_grow
    rw [s_mIfS]
    have hraise : mRaise_NotRight (getFV 0 0 "taken") [.ob (some 0) 0 (kp k), .fz (.int n), .fz (cD c), .fz (cD hs), .fz (.bl (decide (k.top < n) && inV k.v c)), .un] = .ex (.notRight (k.tk : Int)) [.ob (some 0) 0 (kp k), .fz (.int n), .fz (cD c), .fz (cD hs), .fz (.bl (decide (k.top < n) && inV k.v c)), .un] := by
      unfold mRaise_NotRight
      rw [k_taken]
      rfl
    simp only [s_tOr2, s_tNot1, s_getVs, s_getV0, R.bind_ok, s_trB, s_aCons, k_table, s_aNil, hff, scalD_bl]
    unfold Kst.fits
    by_cases z : (decide (k.top < n) && inV k.v c) = true
    · rw [z] at hraise ⊢
      have z2 := z
      rw [Bool.and_eq_true] at z2
      obtain ⟨z3, z4⟩ := z2
      simp only [Bool.not_true, Bool.false_eq_true, if_false, z3, z4, Bool.true_and]
      cases followsL k.t c hs with
      | true => simp
      | false => simp [hraise]
    · have z' : (decide (k.top < n) && inV k.v c) = false := by simpa using z
      rw [z'] at hraise ⊢
      have : (decide (k.top < n) && (inV k.v c && followsL k.t c hs)) = false := by rw [← Bool.and_assoc, z']; rfl
      simp [this, hraise]
  show runM 6 4 m_Keeper_grow _ = _
  by_cases z : k.fits n c hs = true
  · rw [if_pos z]
    have ea := mFSet_eq (i := 0) (c := 0) (f := "top") (j := some 0) (fs := kp k) (S := [.ob (some 0) 0 (kp k), .fz (.int n), .fz (cD c), .fz (cD hs), .fz (.bl (decide (k.top < n) && inV k.v c)), .un]) (m := getF 1) (d := .int n) rfl (kp_len k) rfl
    have eb := mFPut_eq (i := 0) (c := 0) (f := "table") (j := some 0) (fs := kp { k with top := n }) (S := [.ob (some 0) 0 (kp { k with top := n }), .fz (.int n), .fz (cD c), .fz (cD hs), .fz (.bl (decide (k.top < n) && inV k.v c)), .un]) (mk := getV 1) (m := fun S => ((aCons (getV 2) aNil) S).bind (on1 tupD)) (k := n) (d := cD c) (es := tE k.t) rfl (kp_table _) (by rw [tE_len]; omega) rfl (by simp [cD])
    have hcd : trD (cD c) = .ok (!c.isEmpty) := by cases c <;> rfl
    refine runM_nx (S := [.ob (some 0) 0 (kp k), .fz (.int n), .fz (cD c), .fz (cD hs)]) (S' := [.ob (some 0) 0 (kp (k.grow n c)), .fz (.int n), .fz (cD c), .fz (cD hs), .fz (.bl (decide (k.top < n) && inV k.v c)), .un]) ?_ (by simp)
    refine seq_nx e0 (seq_nx (by rw [e1, if_pos z]) ?_)
    refine seq_nx (S1 := [.ob (some 0) 0 (kp { k with top := n }), .fz (.int n), .fz (cD c), .fz (cD hs), .fz (.bl (decide (k.top < n) && inV k.v c)), .un]) (by show mFSet _ _ _ _ _ = _; rw [ea, kp_put_top]; rfl) ?_
    refine seq_nx (S1 := [.ob (some 0) 0 (kp { k with top := n, t := tput k.t n c }), .fz (.int n), .fz (cD c), .fz (cD hs), .fz (.bl (decide (k.top < n) && inV k.v c)), .un]) (by show mFPut _ _ _ _ _ _ = _; rw [eb, putD_tE, kp_put_table]; rfl) ?_
    unfold s4_Keeper_grow
    rw [s_mIfS]
    simp only [s_tNot1, s_getVs, s_getV0, R.bind_ok, hcd, Bool.not_not, toSL_ok]
    cases c with
    | nil =>
      have ec := mFSet_eq (i := 0) (c := 0) (f := "refuted") (j := some 0) (fs := kp { k with top := n, t := tput k.t n [] }) (S := [.ob (some 0) 0 (kp { k with top := n, t := tput k.t n [] }), .fz (.int n), .fz (cD []), .fz (cD hs), .fz (.bl (decide (k.top < n) && inV k.v [])), .un]) (m := cst (.bl true)) (d := .bl true) rfl (kp_len _) rfl
      show mFSet _ _ _ _ _ = _
      rw [ec, kp_put_refuted]
      unfold Kst.grow
      simp
    | cons a c =>
      unfold Kst.grow
      simp
  · rw [if_neg z]
    exact runM_ex (n := 6) (np := 4) (m := m_Keeper_grow) (S := [.ob (some 0) 0 (kp k), .fz (.int n), .fz (cD c), .fz (cD hs)]) (S' := [.ob (some 0) 0 (kp k), .fz (.int n), .fz (cD c), .fz (cD hs), .fz (.bl (decide (k.top < n) && inV k.v c)), .un]) (seq_nx e0 (seq_ex (by rw [e1, if_neg z]))) (by simp)
theorem kdrops (y : Sl) : ∀ (ns : List Int) (k : Kst) (x : Sl), ∃ x', loopM (.one 2) b0_Keeper_take (ns.map D.int) (.ob (some 0) 0 (kp k) :: y :: [x]) = .nx (.ob (some 0) 0 (kp { k with t := ns.foldl tdrop k.t }) :: y :: [x'])
  | [], k, x => ⟨x, rfl⟩
  | n :: ns, k, x => by
    have e := mFPop_eq (i := 0) (c := 0) (f := "table") (j := some 0) (fs := kp k) (S := [.ob (some 0) 0 (kp k), y, .fz (.int n)]) (mk := getV 2) (k := n) (es := tE k.t) rfl (kp_table k) rfl
    have hb : b0_Keeper_take [.ob (some 0) 0 (kp k), y, .fz (.int n)] = .nx [.ob (some 0) 0 (kp { k with t := tdrop k.t n }), y, .fz (.int n)] := by
      unfold b0_Keeper_take
      rw [e, dropD_tE, kp_put_table]
      rfl
    obtain ⟨x', e2⟩ := kdrops y ns { k with t := tdrop k.t n } (.fz (.int n))
    refine ⟨x', ?_⟩
    rw [List.map_cons, loop_cons_nx (S1 := [.ob (some 0) 0 (kp k), y, .fz (.int n)]) rfl hb]
    exact e2
theorem ktake {k : Kst} (hk : TbOk k.t) (hkl : k.t.length < 1000) {s : Stp} (hs : StpOk s) :
    f_Keeper_take [.ob (some 0) 0 (kp k), .fz (stD s)] = match k.take s with
      | some k' => .ok .non [.ob (some 0) 0 (kp k'), .un]
      | none => .exc (.notRight (k.tk : Int)) [.ob (some 0) 0 (kp k), .un] := by
  have fin : ∀ (k' : Kst) (x : Sl), s1_Keeper_take [.ob (some 0) 0 (kp k'), .fz (stD s), x] = .nx [.ob (some 0) 0 (kp { k' with tk := k'.tk + 1 }), .fz (stD s), x] := by
    intro k' x
    have e := mFSet_eq (i := 0) (c := 0) (f := "taken") (j := some 0) (fs := kp k') (S := [.ob (some 0) 0 (kp k'), .fz (stD s), x]) (m := m2 addD (getFV 0 0 "taken") (cst (.int 1))) (d := .int ((k'.tk + 1 : Nat) : Int)) rfl (kp_len _) (by simp)
    show mFSet _ _ _ _ _ = _
    rw [e, kp_put_taken]
    rfl
  show runM 3 2 m_Keeper_take _ = _
  unfold Kst.take
  by_cases hr : k.r = true
  · rw [if_pos hr]
    refine runM_nx (S := [.ob (some 0) 0 (kp k), .fz (stD s)]) (seq_nx (S1 := [.ob (some 0) 0 (kp k), .fz (stD s), .un]) ?_ (fin k .un)) (by simp)
    simp [s0_Keeper_take, hr]
  have hr' : k.r = false := by simpa using hr
  rw [if_neg hr]
  cases s with
  | drop ns =>
    obtain ⟨x', e⟩ := kdrops (.fz (stD (.drop ns))) ns k .un
    refine runM_nx (S := [.ob (some 0) 0 (kp k), .fz (stD (.drop ns))]) (seq_nx (S1 := [.ob (some 0) 0 (kp { k with t := ns.foldl tdrop k.t }), .fz (stD (.drop ns)), x']) ?_ (fin _ x')) (by simp)
    show s0_Keeper_take [.ob (some 0) 0 (kp k), .fz (stD (.drop ns)), .un] = _
    unfold s0_Keeper_take
    rw [s_mIfS]
    simp only [s_tNot1, k_refuted, R.bind_ok, s_trB, hr', Bool.not_false, toSL_ok, if_true]
    rw [s_mIfS]
    simp only [s_m2, s_getVs, s_getV0, s_cst, R.bind_ok, st_d0, s_eqS, decide_true, s_tBl, toSL_ok, if_true]
    rw [s_mFor]
    simp only [s_mItems, s_m2, s_getVs, s_getV0, s_cst, R.bind_ok, st_d1, cD_items, toSL_ok]
    rw [← hr']
    exact e
  | add n c hs' =>
    obtain ⟨h0, hc, hl⟩ := hs.add n c hs' rfl
    have hg := kgrow hk hkl (n := n) h0 hc hl
    have harg : (aCons (m2 ixD (getV 1) (cst (.int 1))) (aCons (m2 ixD (getV 1) (cst (.int 2))) (aCons (m2 ixD (getV 1) (cst (.int 3))) aNil))) [.ob (some 0) 0 (kp k), .fz (stD (.add n c hs')), .un] = .ok [.int n, cD c, cD hs'] := by
      simp only [s_aCons, s_m2, s_getVs, s_getV0, s_cst, R.bind_ok, st_a1, st_a2, st_a3, s_aNil]
    have hin : ∀ r, mDropM (mMeth 0 0 "grow" f_Keeper_grow (aCons (m2 ixD (getV 1) (cst (.int 1))) (aCons (m2 ixD (getV 1) (cst (.int 2))) (aCons (m2 ixD (getV 1) (cst (.int 3))) aNil)))) [.ob (some 0) 0 (kp k), .fz (stD (.add n c hs')), .un] = r → s0_Keeper_take [.ob (some 0) 0 (kp k), .fz (stD (.add n c hs')), .un] = r := by
      intro r e
      unfold s0_Keeper_take
      rw [s_mIfS]
      simp only [s_tNot1, k_refuted, R.bind_ok, s_trB, hr', Bool.not_false, toSL_ok, if_true]
      rw [s_mIfS]
      simp only [s_m2, s_getVs, s_getV0, s_cst, R.bind_ok, st_a0, s_eqS, ne_add_drop, decide_false, s_tBl, toSL_ok, Bool.false_eq_true, if_false]
      exact e
    by_cases z : k.fits n c hs' = true
    · rw [if_pos z] at hg
      simp only
      rw [if_pos z]
      refine runM_nx (S := [.ob (some 0) 0 (kp k), .fz (stD (.add n c hs'))]) (seq_nx (S1 := [.ob (some 0) 0 (kp (k.grow n c)), .fz (stD (.add n c hs')), .un]) (hin _ ?_) (fin _ .un)) (by simp)
      rw [s_mDropM, mMeth_ok (j := some 0) (fs := kp k) rfl (kp_grow k) harg hg]
      rfl
    · rw [if_neg z] at hg
      simp only
      rw [if_neg z]
      refine runM_ex (S := [.ob (some 0) 0 (kp k), .fz (stD (.add n c hs'))]) (seq_ex (S1 := [.ob (some 0) 0 (kp k), .fz (stD (.add n c hs')), .un]) (hin _ ?_)) (by simp)
      rw [s_mDropM, mMeth_exc (j := some 0) (fs := kp k) rfl (kp_grow k) harg hg]
      rfl
end DL
/-! What checked computes. -/
namespace DL
open PySem L2

theorem Kst.take_ok {k k' : Kst} (hk : TbOk k.t) (hkl : k.t.length < 1000) {s : Stp} (hs : StpOk s) (h : k.take s = some k') : TbOk k'.t ∧ k'.t.length ≤ k.t.length + 1 ∧ k'.tk = k.tk + 1 := by
  unfold Kst.take at h
  by_cases hr : k.r = true
  · rw [if_pos hr] at h; cases h; exact ⟨hk, Nat.le_succ _, rfl⟩
  · rw [if_neg hr] at h
    cases s with
    | drop ns => cases h; exact ⟨hk.drops, Nat.le_trans drops_len (Nat.le_succ _), rfl⟩
    | add n c hs' =>
      simp only at h
      split at h
      · cases h
        obtain ⟨h0, hc, _⟩ := hs.add n c hs' rfl
        exact ⟨hk.put h0 hc hkl, tput_len _ _ _, rfl⟩
      · cases h
theorem kst0_ok {v : Int} {f : List (List Int)} (h0 : ∀ c ∈ f, 0 ∉ c) (hl : ∀ c ∈ f, c.length ≤ 1000) (hn : f.length ≤ 1000) : TbOk (kst0 v f).t ∧ (kst0 v f).t.length = f.length := ⟨numT_ok h0 hl hn, numT_len _ _⟩
theorem kloop (a b c : Sl) : ∀ (steps : List Stp) (k : Kst) (x : Sl), (∀ s ∈ steps, StpOk s) → TbOk k.t → k.t.length + steps.length < 1000 →
    match k.run steps with
    | .ok k' => ∃ x', loopM (.one 4) b0_checked (steps.map stD) [a, b, c, .ob none 0 (kp k), x] = .nx [a, b, c, .ob none 0 (kp k'), x']
    | .error e => ∃ S, loopM (.one 4) b0_checked (steps.map stD) [a, b, c, .ob none 0 (kp k), x] = .ex (.notRight (e : Int)) S
  | [], k, x, _, _, _ => ⟨x, rfl⟩
  | s :: steps, k, x, hs, hk, hl => by
    have hs1 := hs s (List.mem_cons_self ..)
    simp only [List.length_cons] at hl
    have ht := ktake hk (by omega) hs1
    show match (match k.take s with | none => Except.error k.tk | some k' => k'.run steps) with | .ok k' => _ | .error e => _
    have hput : (Tg.one 4).put (stD s) [a, b, c, .ob none 0 (kp k), x] = .ok [a, b, c, .ob none 0 (kp k), .fz (stD s)] := rfl
    rw [List.map_cons]
    cases e : k.take s with
    | none =>
      rw [e] at ht
      simp only at ht ⊢
      have hb : b0_checked [a, b, c, .ob none 0 (kp k), .fz (stD s)] = .ex (.notRight (k.tk : Int)) [a, b, c, .ob none 0 (kp k), .fz (stD s)] := by
        unfold b0_checked
        rw [s_mDropM, mMeth_exc (j := none) (fs := kp k) (ds := [stD s]) rfl (kp_take k) rfl ht]
        rfl
      refine ⟨[a, b, c, .ob none 0 (kp k), .fz (stD s)], ?_⟩
      rw [loopM, hput]; simp only [hb]
    | some k' =>
      rw [e] at ht
      simp only at ht ⊢
      obtain ⟨h1, h2, _⟩ := Kst.take_ok hk (by omega) hs1 e
      have hb : b0_checked [a, b, c, .ob none 0 (kp k), .fz (stD s)] = .nx [a, b, c, .ob none 0 (kp k'), .fz (stD s)] := by
        unfold b0_checked
        rw [s_mDropM, mMeth_ok (j := none) (fs := kp k) (ds := [stD s]) rfl (kp_take k) rfl ht]
        rfl
      have ih := kloop a b c steps k' (.fz (stD s)) (fun q hq => hs q (List.mem_cons_of_mem _ hq)) h1 (by omega)
      rw [loop_cons_nx hput hb]
      exact ih
theorem fchecked {v : Int} {f : List (List Int)} {steps : List Stp} (h0 : ∀ c ∈ f, 0 ∉ c) (hl : ∀ c ∈ f, c.length ≤ 1000) (hn : f.length + steps.length < 1000) (hs : ∀ s ∈ steps, StpOk s) :
    f_checked [.int v, fD f, .lst (steps.map stD)] = match (kst0 v f).run steps with
      | .ok k => .ok (.bl k.r)
      | .error e => .exc (.notRight (e : Int)) := by
  obtain ⟨hk, hkl⟩ := kst0_ok (v := v) h0 hl (by omega)
  have hlp := kloop (.fz (.int v)) (.fz (fD f)) (.fz (.lst (steps.map stD))) steps (kst0 v f) .un hs hk (by omega)
  have h1 : s0_checked [.fz (.int v), .fz (fD f), .fz (.lst (steps.map stD)), .un, .un] = .nx [.fz (.int v), .fz (fD f), .fz (.lst (steps.map stD)), .ob none 0 (kp (kst0 v f)), .un] := by
    unfold s0_checked
    rw [mMk_eq (fs := kp (kst0 v f)) (ds := [.int v, fD f]) rfl (fkeeper (by omega))]
    rfl
  have hf : ∀ r, loopM (.one 4) b0_checked (steps.map stD) [.fz (.int v), .fz (fD f), .fz (.lst (steps.map stD)), .ob none 0 (kp (kst0 v f)), .un] = r → s1_checked [.fz (.int v), .fz (fD f), .fz (.lst (steps.map stD)), .ob none 0 (kp (kst0 v f)), .un] = r := by
    intro r e
    unfold s1_checked
    rw [s_mFor]
    simp only [s_mItems, s_getFs, s_getF0, R.bind_ok, s_itemsL, toSL_ok]
    exact e
  cases e : (kst0 v f).run steps with
  | ok k =>
    rw [e] at hlp
    obtain ⟨x', e2⟩ := hlp
    refine run_rt (m := m_checked) (ds := [.int v, fD f, .lst (steps.map stD)]) (seq_nx h1 (seq_nx (hf _ e2) ?_))
    simp [s2_checked]
  | error n =>
    rw [e] at hlp
    obtain ⟨S, e2⟩ := hlp
    exact run_ex (n := 5) (np := 3) (m := m_checked) (ds := [.int v, fD f, .lst (steps.map stD)]) (seq_nx h1 (seq_ex (hf _ e2)))
end DL
/-! What a search does: no program in sight. -/
namespace DL
open PySem L2

/-- a truth's key is its own -/
def kOk (x : List (Int × Int)) : Prop := ∀ k y, getZ x k = some y → (y.natAbs : Int) = k
theorem kOk_nil : kOk [] := fun k y e => by simp [getZ] at e
theorem kOk.put {x : List (Int × Int)} (h : kOk x) (l : Int) : kOk (putZ x (l.natAbs : Int) l) := by
  intro k y e
  rw [getZ_putZ] at e
  split at e
  · rename_i z; cases e; exact z.symm
  · exact h k y e
theorem kOk_fold : ∀ (L : List Int) (x : List (Int × Int)), kOk x → kOk (L.foldl (fun x l => putZ x (l.natAbs : Int) l) x)
  | [], _, h => h
  | l :: L, x, h => kOk_fold L _ (h.put l)
/-- so few literals of so many variables -/
theorem few_lits : ∀ (v : Nat) (L : List Int), InR v L → L.Nodup → (∀ l ∈ L, -l ∉ L) → L.length ≤ v
  | 0, L, h, _, _ => by
    cases L with
    | nil => exact Nat.le_refl _
    | cons l L => have := h l (List.mem_cons_self ..); unfold litOk at this; omega
  | v + 1, L, h, hn, hb => by
    have hn1 := hn.erase ((v : Int) + 1)
    have hn2 := hn1.erase (-((v : Int) + 1))
    have hm : ∀ l ∈ (L.erase ((v : Int) + 1)).erase (-((v : Int) + 1)), l ∈ L ∧ l ≠ (v : Int) + 1 ∧ l ≠ -((v : Int) + 1) := by
      intro l hl
      have h1 := (hn1.mem_erase_iff).mp hl
      have h2 := (hn.mem_erase_iff).mp h1.2
      exact ⟨h2.2, h2.1, h1.1⟩
    have ih := few_lits v _ (fun l hl => by
      obtain ⟨h1, h2, h3⟩ := hm l hl
      have := h l h1
      unfold litOk at *
      omega) hn2 (fun l hl hz => hb l (hm l hl).1 (hm _ hz).1)
    have e2 : (L.erase ((v : Int) + 1)).length ≤ ((L.erase ((v : Int) + 1)).erase (-((v : Int) + 1))).length + 1 := by
      by_cases q : -((v : Int) + 1) ∈ L.erase ((v : Int) + 1)
      · rw [List.length_erase_of_mem q]; omega
      · rw [List.erase_of_not_mem q]; omega
    by_cases z : (v : Int) + 1 ∈ L
    · have z2 : -((v : Int) + 1) ∉ L.erase ((v : Int) + 1) := fun q => hb _ z ((hn.mem_erase_iff).mp q).2
      rw [List.erase_of_not_mem z2] at ih
      rw [List.length_erase_of_mem z] at ih
      omega
    · rw [List.erase_of_not_mem z] at ih e2
      omega
theorem only_one {xs : List Int} {a : Int} (hn : xs.Nodup) (ha : a ∈ xs) (h : ∀ l ∈ xs, l = a) : xs = [a] := by
  cases xs with
  | nil => cases ha
  | cons x r =>
    have hx := h x (List.mem_cons_self ..)
    subst hx
    cases r with
    | nil => rfl
    | cons y s =>
      have hy := h y (List.mem_cons_of_mem _ (List.mem_cons_self ..))
      subst hy
      simp at hn
/-- a walk stands in a longer table -/
theorem walk_mono {t t' : Tb} (h : ∀ n c, tget t n = some c → tget t' n = some c) : ∀ (hs L : List Int) (u : Nat), (walkL t L hs u).1 ≠ 0 → walkL t' L hs u = walkL t L hs u
  | [], L, u, _ => rfl
  | n :: hs, L, u, e => by
    rw [walkL_cons] at e
    rw [walkL_cons, walkL_cons]
    by_cases h0 : n < 0
    · rw [if_pos h0, if_pos h0]
    · rw [if_neg h0] at e
      rw [if_neg h0, if_neg h0]
      cases hg : tget t n with
      | none => rw [hg] at e; exact absurd rfl e
      | some c =>
        rw [hg] at e
        rw [h n c hg]
        simp only at e ⊢
        cases ho : openL L c with
        | nil => rfl
        | cons x r =>
          rw [ho] at e
          simp only at e ⊢
          by_cases hz : r ≠ [] ∨ x ∈ L
          · rw [if_pos hz, if_pos hz]
          · rw [if_neg hz] at e
            rw [if_neg hz, if_neg hz]
            exact walk_mono h hs _ _ e
theorem numT_more {g d : List (List Int)} : ∀ n c, tget (numT succN g) n = some c → tget (numT succN (g ++ d)) n = some c := by
  intro n c h
  obtain ⟨k, hk, rfl, rfl⟩ := numT_some h
  rw [numT_get (by simp; omega), List.getD_eq_getElem?_getD, List.getD_eq_getElem?_getD, List.getElem?_append_left hk]
/-- what spread knows -/
structure SpI (v : Nat) (t : Tb) (L0 : List Int) (x : List (Int × Int)) (H L : List Int) : Prop where
  r : relT x L
  k : kOk x
  w : walkL t L0 H 0 = (1, H.length, L)
  p : ∀ h ∈ H, 0 < h
  i : InR v L
  n : L.Nodup
  l : L.length = L0.length + H.length
  s : ∀ l ∈ L0, l ∈ L
  xl : x.length ≤ L.length
section
variable {v : Nat} {t : Tb} {L0 : List Int} {x : List (Int × Int)} {H L : List Int}
theorem SpI.few (h : SpI v t L0 x H L) : L.length ≤ v := few_lits v L h.i h.n fun l hl => h.r.nb hl
theorem SpI.app (h : SpI v t L0 x H L) (r : List Int) : walkL t L0 (H ++ r) 0 = walkL t L r H.length := by
  have := (walkL_app t H r L0 0 (fun a ha => by have := h.p a ha; omega) (by rw [h.w])).1
  rw [h.w] at this
  rw [this, Nat.zero_add]
theorem SpI.over (h : SpI v t L0 x H L) {n : Int} (hn : 0 < n) {c : List Int} (hg : tget t n = some c) (ho : openL L c = []) : (walkL t L0 (H ++ [n]) 0).1 = 2 := by
  rw [h.app, walkL_one (by omega) hg, ho]
theorem SpI.put (h : SpI v t L0 x H L) {n : Int} (hn : 0 < n) {c : List Int} (hg : tget t n = some c) (hc : InR v c) {l : Int} (ho : openL L c = [l]) (hh : ∀ a ∈ c, a ∉ L) :
    SpI v t L0 (putZ x (l.natAbs : Int) l) (H ++ [n]) (L ++ [l]) := by
  have hm : l ∈ c ∧ -l ∉ L := mem_openL.mp (by rw [ho]; exact List.mem_singleton.mpr rfl)
  have hl := hh l hm.1
  have hr := hc l hm.1
  refine ⟨h.r.put (by unfold litOk at hr; omega) hm.2, h.k.put l, ?_, fun a ha => ?_, fun a ha => ?_, ?_, ?_, fun a ha => List.mem_append_left _ (h.s a ha), ?_⟩
  · rw [h.app, walkL_one (by omega) hg, ho]
    simp [hl]
  · rcases List.mem_append.mp ha with z | z
    · exact h.p a z
    · rw [List.mem_singleton] at z; omega
  · rcases List.mem_append.mp ha with z | z
    · exact h.i a z
    · rw [List.mem_singleton] at z; subst z; exact hr
  · rw [List.nodup_append]
    refine ⟨h.n, by simp, fun a ha b hb e => ?_⟩
    rw [List.mem_singleton] at hb
    subst hb; subst e
    exact hl ha
  · have := h.l; simp; omega
  · have := putZ_len x (l.natAbs : Int) l; have := h.xl; simp; omega
/-- both branches closed -/
theorem SpI.both {g d : List (List Int)} (h : SpI v (numT succN g) L0 x H L) {k : Int} (h1 : k ∉ L) (h2 : -k ∉ L) {o1 o2 : Int} (p1 : 0 < o1) (p2 : 0 < o2)
    (g1 : tget (numT succN (g ++ d)) o1 = some ((L0 ++ [k]).map fun l => -l)) (g2 : tget (numT succN (g ++ d)) o2 = some ((L0 ++ [-k]).map fun l => -l)) :
    (walkL (numT succN (g ++ d)) L0 (H ++ [o1, o2]) 0).1 = 2 := by
  have hw : walkL (numT succN (g ++ d)) L0 H 0 = (1, H.length, L) := by rw [walk_mono numT_more H L0 0 (by rw [h.w]; exact Nat.one_ne_zero), h.w]
  have := (walkL_app (numT succN (g ++ d)) H [o1, o2] L0 0 (fun a ha => by have := h.p a ha; omega) (by rw [hw])).1
  rw [hw] at this
  rw [this]
  have hs := h.s
  have e1 : openL L ((L0 ++ [k]).map fun l => -l) = [-k] := by
    refine only_one (openL_nodup _ _) (mem_openL.mpr ⟨by simp, by rw [Int.neg_neg]; exact h1⟩) fun l hl => ?_
    obtain ⟨q1, q2⟩ := mem_openL.mp hl
    obtain ⟨a, ha, rfl⟩ := List.mem_map.mp q1
    rcases List.mem_append.mp ha with z | z
    · exact absurd (hs a z) (by rw [Int.neg_neg] at q2; exact q2)
    · rw [List.mem_singleton] at z; rw [z]
  have e2 : openL (L ++ [-k]) ((L0 ++ [-k]).map fun l => -l) = [] := by
    apply List.eq_nil_iff_forall_not_mem.mpr
    intro l hl
    obtain ⟨q1, q2⟩ := mem_openL.mp hl
    obtain ⟨a, ha, rfl⟩ := List.mem_map.mp q1
    rw [Int.neg_neg] at q2
    rcases List.mem_append.mp ha with z | z
    · exact q2 (List.mem_append_left _ (hs a z))
    · exact q2 (List.mem_append_right _ z)
  rw [walkL_cons, if_neg (by omega), g1]
  simp only [e1]
  rw [if_neg (by simp; exact h2), walkL_one (by omega) g2, e2]
/-- all is set: a model -/
theorem SpI.model (h : SpI v t L0 x H L) (ha : ∀ k, k < v → ∃ y, getZ x ((k : Int) + 1) = some y) {f : List (List Int)} (hf : ∀ c ∈ f, InR v c) (hs : ∀ c ∈ f, (∃ l ∈ c, l ∈ L) ∨ 2 ≤ (openL L c).length) :
    ∃ σ, ft σ f = true ∧ ∀ k, k < v → getZ x ((k : Int) + 1) = some (sg σ (k + 1)) := by
  have key : ∀ k, k < v → ((k : Int) + 1 ∈ L ∧ getZ x ((k : Int) + 1) = some ((k : Int) + 1)) ∨ (-((k : Int) + 1) ∈ L ∧ getZ x ((k : Int) + 1) = some (-((k : Int) + 1))) := by
    intro k hk
    obtain ⟨y, hy⟩ := ha k hk
    have hk2 := h.k _ _ hy
    have hm : y ∈ L := (h.r.2 y (by omega)).mp (by rw [hk2]; exact hy)
    by_cases z : 0 < y
    · have : y = (k : Int) + 1 := by omega
      subst this; exact .inl ⟨hm, hy⟩
    · have : y = -((k : Int) + 1) := by omega
      subst this; exact .inr ⟨hm, hy⟩
  have lit : ∀ l, litOk v l → l ∈ L ∨ -l ∈ L := by
    intro l hl
    unfold litOk at hl
    obtain ⟨k, hk⟩ : ∃ k, l.natAbs = k + 1 := ⟨l.natAbs - 1, by omega⟩
    rcases key k (by omega) with ⟨z, _⟩ | ⟨z, _⟩
    · by_cases q : 0 < l
      · exact .inl (by rw [show l = (k : Int) + 1 by omega]; exact z)
      · exact .inr (by rw [show -l = (k : Int) + 1 by omega]; exact z)
    · by_cases q : 0 < l
      · exact .inr (by rw [show -l = -((k : Int) + 1) by omega]; exact z)
      · exact .inl (by rw [show l = -((k : Int) + 1) by omega]; exact z)
  refine ⟨fun k => decide ((k : Int) ∈ L), ?_, fun k hk => ?_⟩
  · unfold ft
    rw [List.all_eq_true]
    intro c hc
    have held : ∃ l ∈ c, l ∈ L := by
      rcases hs c hc with z | z
      · exact z
      · cases ho : openL L c with
        | nil => rw [ho] at z; simp at z
        | cons a r =>
          obtain ⟨q1, q2⟩ := mem_openL.mp (show a ∈ openL L c by rw [ho]; exact List.mem_cons_self ..)
          rcases lit a (hf c hc a q1) with z2 | z2
          · exact ⟨a, q1, z2⟩
          · exact absurd z2 q2
    obtain ⟨l, h1, h2⟩ := held
    unfold ct
    rw [List.any_eq_true]
    refine ⟨l, h1, ?_⟩
    have h0 := h.r.z h2
    unfold lt
    by_cases q : 0 < l
    · rw [if_pos q]
      show decide (((l.natAbs : Nat) : Int) ∈ L) = true
      rw [show ((l.natAbs : Nat) : Int) = l by omega]
      exact decide_eq_true h2
    · rw [if_neg q]
      show (!decide (((l.natAbs : Nat) : Int) ∈ L)) = true
      rw [show ((l.natAbs : Nat) : Int) = -l by omega, decide_eq_false (h.r.nb h2)]
      rfl
  · have hsg : ((k + 1 : Nat) : Int) = (k : Int) + 1 := by omega
    rcases key k hk with ⟨z, q⟩ | ⟨z, q⟩
    · rw [q]
      unfold sg
      show _ = some (if decide (((k + 1 : Nat) : Int) ∈ L) = true then ((k + 1 : Nat) : Int) else -((k + 1 : Nat) : Int))
      rw [hsg, decide_eq_true z, if_pos rfl]
    · have : (k : Int) + 1 ∉ L := fun w => h.r.nb w z
      rw [q]
      unfold sg
      show _ = some (if decide (((k + 1 : Nat) : Int) ∈ L) = true then ((k + 1 : Nat) : Int) else -((k + 1 : Nat) : Int))
      rw [hsg, decide_eq_false this, if_neg (by decide)]
end
end DL
/-! What the program's Search spreads. -/
namespace DL
open PySem L2

theorem fheldR {x : List (Int × Int)} {L : List Int} (h : relT x L) {c : List Int} (h0 : 0 ∉ c) (hl : c.length ≤ 1000) : f_held [.dct (dE x), cD c] = .ok (.bl (c.any fun l => decide (l ∈ L))) := by
  refine run_rt ?_
  show m_held [.fz (.dct (dE x)), .fz (cD c), .un] = _
  have e : mLc (.one 2) [2] (mItems (getV 1)) mYes e0_held [.fz (.dct (dE x)), .fz (cD c), .un] = .ok (c.map fun l => .bl (decide (l ∈ L))) :=
    mLc_map c D.int _ rfl (by have := big; omega) fun l hl => ⟨_, rfl, by simp [e0_held, wipeS, fis_true h (show l ≠ 0 from fun e => h0 (e ▸ hl))]⟩
  simp only [m_held, s0_held, s_mRet, s_aCons, s_aNil, e, R.bind_ok, s_on1, any_map, toS_ok]
def rowD (e : Int × List Int) : D := .tup [.int e.1, cD e.2]
def rowsD (g : List (List Int)) : List D := (numT succN g).map rowD
theorem mIfS_t {c : List Sl → R Bool} {a b : List Sl → SO} {S : List Sl} {r : SO} (h : c S = .ok true) (e : a S = r) : mIfS c a b S = r := by rw [s_mIfS, h, toSL_ok, if_pos rfl]; exact e
theorem mIfS_f {c : List Sl → R Bool} {a b : List Sl → SO} {S : List Sl} {r : SO} (h : c S = .ok false) (e : b S = r) : mIfS c a b S = r := by rw [s_mIfS, h, toSL_ok, if_neg (by decide)]; exact e
def iL (H : List Int) : List D := H.map D.int
theorem iL_snoc (H : List Int) (n : Int) : iL H ++ [.int n] = iL (H ++ [n]) := by unfold iL; rw [List.map_append]; rfl
theorem sp_body {v : Nat} {t : Tb} {L0 : List Int} {x : List (Int × Int)} {H L : List Int} (h : SpI v t L0 x H L) (hv : v ≤ 100) {n : Int} {c : List Int} (hc : InR v c) (hl : c.length ≤ 1000) (P : Sl) (st : Bool) (y : Sl) :
    ((∃ l ∈ c, l ∈ L) ∧ b0_Search_spread [.hd 0, P, .od (dE x), .ol (iL H), .fz (.bl st), .fz (.int n), .fz (cD c), y] = .nx [.hd 0, P, .od (dE x), .ol (iL H), .fz (.bl st), .fz (.int n), .fz (cD c), y]) ∨
    ((∀ l ∈ c, l ∉ L) ∧ openL L c = [] ∧ ∃ S', b0_Search_spread [.hd 0, P, .od (dE x), .ol (iL H), .fz (.bl st), .fz (.int n), .fz (cD c), y] = .rs (.tup [.dct (dE x), .lst (iL (H ++ [n])), .bl true]) (.hd 0 :: P :: S')) ∨
    ((∀ l ∈ c, l ∉ L) ∧ ∃ l y', openL L c = [l] ∧ b0_Search_spread [.hd 0, P, .od (dE x), .ol (iL H), .fz (.bl st), .fz (.int n), .fz (cD c), y] = .nx [.hd 0, P, .od (dE (putZ x (l.natAbs : Int) l)), .ol (iL (H ++ [n])), .fz (.bl true), .fz (.int n), .fz (cD c), y']) ∨
    (2 ≤ (openL L c).length ∧ ∃ y', b0_Search_spread [.hd 0, P, .od (dE x), .ol (iL H), .fz (.bl st), .fz (.int n), .fz (cD c), y] = .nx [.hd 0, P, .od (dE x), .ol (iL H), .fz (.bl st), .fz (.int n), .fz (cD c), y']) := by
  have hb := big
  have h0 : 0 ∉ c := litOk_ne hc
  have hfew := h.few
  have hHl : H.length ≤ 100 := by have := h.l; omega
  have hxl := h.xl
  have hh := fheldR h.r h0 hl
  have ho := fopened h.r h0 hl
  by_cases z : (c.any fun l => decide (l ∈ L)) = true
  · refine .inl ⟨?_, ?_⟩
    · rw [List.any_eq_true] at z
      obtain ⟨l, h1, h2⟩ := z
      exact ⟨l, h1, of_decide_eq_true h2⟩
    · unfold b0_Search_spread
      rw [s_mIfS]
      simp only [s_tNot1, s_aCons, s_getVs, s_getV0, s_getV0d, s_aNil, R.bind_ok, hh, scalD_bl, z, s_trB, Bool.not_true, toSL_ok, Bool.false_eq_true, if_false]
      rfl
  · have zf : (c.any fun l => decide (l ∈ L)) = false := by simpa using z
    have hno : ∀ l ∈ c, l ∉ L := fun l hl hm => z (by rw [List.any_eq_true]; exact ⟨l, hl, decide_eq_true hm⟩)
    have pre : ∀ r, (mSeq (mIfS (tNot1 (fun S => ((getV 7) S).bind trD)) (mSeq (mFrz 2) (mRetS (fun S => (aLim (aCons (getF 2) (aCons (m2 addD (getV 3) (fun S => ((aLim (aCons (getF 5) aNil)) S).bind fun ds => .ok (.lst ds))) (aCons (cst (.bl true)) aNil))) S).bind fun ds => .ok (.tup ds)))) mSkip) (mIfS (fun S => ((m2 eqD (fun S => ((aCons (getV 7) aNil) S).bind (on1 lenD)) (cst (.int 1))) S).bind tBl) (mSeq (mPut 2 (fun S => ((aCons (m2 ixD (getV 7) (cst (.int 0))) aNil) S).bind (on1 absD)) (m2 ixD (getV 7) (cst (.int 0)))) (mSeq (mApp 3 (getF 5)) (mSet 4 (cst (.bl true))))) mSkip)) [.hd 0, P, .od (dE x), .ol (iL H), .fz (.bl st), .fz (.int n), .fz (cD c), .fz (.lst (iL (openL L c)))] = r → b0_Search_spread [.hd 0, P, .od (dE x), .ol (iL H), .fz (.bl st), .fz (.int n), .fz (cD c), y] = r := by
      intro r e
      unfold b0_Search_spread
      rw [s_mIfS]
      simp only [s_tNot1, s_aCons, s_getVs, s_getV0, s_getV0d, s_aNil, R.bind_ok, hh, scalD_bl, zf, s_trB, Bool.not_false, toSL_ok, if_true]
      refine seq_nx (S1 := [.hd 0, P, .od (dE x), .ol (iL H), .fz (.bl st), .fz (.int n), .fz (cD c), .fz (.lst (iL (openL L c)))]) ?_ e
      rw [s_mSet]
      simp only [s_aCons, s_getVs, s_getV0, s_getV0d, s_aNil, R.bind_ok, ho, toN_ol, scalL_ints, toS_ok]
      rfl
    cases hop : openL L c with
    | nil =>
      refine .inr (.inl ⟨hno, rfl, [.fz (.dct (dE x)), .ol (iL H), .fz (.bl st), .fz (.int n), .fz (cD c), .fz (.lst (iL []))], pre _ ?_⟩)
      rw [hop]
      refine seq_rs (mIfS_t (by simp [iL]) ?_)
      refine seq_nx (S1 := [.hd 0, P, .fz (.dct (dE x)), .ol (iL H), .fz (.bl st), .fz (.int n), .fz (cD c), .fz (.lst (iL []))]) rfl ?_
      have hcat : addD (.lst (iL H)) (.lst [.int n]) = .ok (.lst (iL (H ++ [n]))) := by rw [add_lst (by simp [iL]; omega), iL_snoc]
      rw [s_mRetS]
      simp only [s_aLim, s_aCons, s_m2, s_getFs, s_getF0, s_getVs, s_getV0, s_getV0l, s_cst, s_aNil, R.bind_ok, lim1, hcat, lim3, toS_ok]
    | cons l r =>
      cases hr : r with
      | nil =>
        subst hr
        have hlc : l ∈ c := (mem_openL.mp (by rw [hop]; exact List.mem_cons_self ..)).1
        refine .inr (.inr (.inl ⟨hno, l, .fz (.lst (iL [l])), rfl, pre _ ?_⟩))
        rw [hop]
        have a0 : atI [D.int l] 0 = some (.int l) := atI_nat (j := 0) rfl
        refine seq_nx (S1 := [.hd 0, P, .od (dE x), .ol (iL H), .fz (.bl st), .fz (.int n), .fz (cD c), .fz (.lst (iL [l]))]) (by simp [iL]) ?_
        refine mIfS_t (by simp [iL]) ?_
        have e := mPut_eq (i := 2) (mk := fun S => ((aCons (m2 ixD (getV 7) (cst (.int 0))) aNil) S).bind (on1 absD)) (m := m2 ixD (getV 7) (cst (.int 0))) (S := [.hd 0, P, .od (dE x), .ol (iL H), .fz (.bl st), .fz (.int n), .fz (cD c), .fz (.lst (iL [l]))]) (es := dE x) (k := (l.natAbs : Int)) (d := .int l) rfl (by simp [iL, a0]) (by simp [iL, a0, abs_nat]) (by rw [dE_len]; omega)
        refine seq_nx (S1 := [.hd 0, P, .od (dE (putZ x (l.natAbs : Int) l)), .ol (iL H), .fz (.bl st), .fz (.int n), .fz (cD c), .fz (.lst (iL [l]))]) (by rw [e, putD_dE]; rfl) ?_
        refine seq_nx (S1 := [.hd 0, P, .od (dE (putZ x (l.natAbs : Int) l)), .ol (iL (H ++ [n])), .fz (.bl st), .fz (.int n), .fz (cD c), .fz (.lst (iL [l]))]) ?_ rfl
        rw [← iL_snoc]
        have hle : (iL H).length < sizeLine := by unfold iL; rw [List.length_map]; omega
        simp [mApp, hle]
      | cons b q =>
        refine .inr (.inr (.inr ⟨by simp, .fz (.lst (iL (l :: b :: q))), pre _ ?_⟩))
        rw [hop, hr]
        refine seq_nx (S1 := [.hd 0, P, .od (dE x), .ol (iL H), .fz (.bl st), .fz (.int n), .fz (cD c), .fz (.lst (iL (l :: b :: q)))]) (by simp [iL]) ?_
        exact mIfS_f (by simp [iL]; omega) rfl
end DL
/-! What the program's Search does: spread, learnt, making. -/
namespace DL
open PySem L2

def RowsOk (v : Nat) (t : Tb) (rows : Tb) : Prop := ∀ e ∈ rows, 0 < e.1 ∧ tget t e.1 = some e.2 ∧ InR v e.2 ∧ e.2.length ≤ 1000
def Still (L : List Int) (rows : Tb) : Prop := ∀ e ∈ rows, (∃ l ∈ e.2, l ∈ L) ∨ 2 ≤ (openL L e.2).length
theorem sp_pass {v : Nat} {t : Tb} {L0 : List Int} (hv : v ≤ 100) (P : Sl) : ∀ (rows : Tb) (x : List (Int × Int)) (H L : List Int) (st : Bool) (y5 y6 y7 : Sl), SpI v t L0 x H L → RowsOk v t rows →
    (∃ x' H' L' st' y5' y6' y7', loopM (.two 5 6) b0_Search_spread (rows.map rowD) [.hd 0, P, .od (dE x), .ol (iL H), .fz (.bl st), y5, y6, y7] = .nx [.hd 0, P, .od (dE x'), .ol (iL H'), .fz (.bl st'), y5', y6', y7'] ∧ SpI v t L0 x' H' L' ∧
      ((st' = true ∧ (st = true ∨ L.length < L'.length) ∧ L.length ≤ L'.length) ∨ (st' = false ∧ st = false ∧ L' = L ∧ Still L rows))) ∨
    (∃ x' H' S', loopM (.two 5 6) b0_Search_spread (rows.map rowD) [.hd 0, P, .od (dE x), .ol (iL H), .fz (.bl st), y5, y6, y7] = .rs (.tup [.dct (dE x'), .lst (iL H'), .bl true]) (.hd 0 :: P :: S') ∧ (walkL t L0 H' 0).1 = 2 ∧ (∀ h ∈ H', 0 < h) ∧ H'.length ≤ v + 1)
  | [], x, H, L, st, y5, y6, y7, h, _ => by
    refine .inl ⟨x, H, L, st, y5, y6, y7, rfl, h, ?_⟩
    cases st with
    | true => exact .inl ⟨rfl, .inl rfl, Nat.le_refl _⟩
    | false => exact .inr ⟨rfl, rfl, rfl, fun e he => by cases he⟩
  | (n, c) :: rows, x, H, L, st, y5, y6, y7, h, hr => by
    obtain ⟨q1, q2, q3, q4⟩ := hr (n, c) (List.mem_cons_self ..)
    have hr' : RowsOk v t rows := fun e he => hr e (List.mem_cons_of_mem _ he)
    have hput : (Tg.two 5 6).put (rowD (n, c)) [.hd 0, P, .od (dE x), .ol (iL H), .fz (.bl st), y5, y6, y7] = .ok [.hd 0, P, .od (dE x), .ol (iL H), .fz (.bl st), .fz (.int n), .fz (cD c), y7] := rfl
    rw [List.map_cons]
    rcases sp_body h hv (n := n) q3 q4 P st y7 with ⟨z, e⟩ | ⟨_, z, S', e⟩ | ⟨z1, l, y', z, e⟩ | ⟨z, y', e⟩
    · rw [loop_cons_nx hput e]
      rcases sp_pass hv P rows x H L st (.fz (.int n)) (.fz (cD c)) y7 h hr' with ⟨x', H', L', st', a, b, d, e2, i, w⟩ | w
      · refine .inl ⟨x', H', L', st', a, b, d, e2, i, ?_⟩
        rcases w with w | ⟨w1, w2, w3, w4⟩
        · exact .inl w
        · refine .inr ⟨w1, w2, w3, fun e he => ?_⟩
          rcases List.mem_cons.mp he with q | q
          · subst q; exact .inl z
          · exact w4 e q
      · exact .inr w
    · rw [loop_cons_rs hput e]
      refine .inr ⟨x, H ++ [n], S', rfl, h.over q1 q2 z, fun a ha => ?_, ?_⟩
      · rcases List.mem_append.mp ha with q | q
        · exact h.p a q
        · rw [List.mem_singleton] at q; omega
      · have := h.few; have := h.l; simp; omega
    · rw [loop_cons_nx hput e]
      have h' := h.put q1 q2 q3 z z1
      rcases sp_pass hv P rows _ _ _ true (.fz (.int n)) (.fz (cD c)) y' h' hr' with ⟨x', H', L', st', a, b, d, e2, i, w⟩ | w
      · refine .inl ⟨x', H', L', st', a, b, d, e2, i, ?_⟩
        rcases w with ⟨w1, _, w3⟩ | ⟨_, w2, _⟩
        · rw [List.length_append] at w3
          simp only [List.length_cons, List.length_nil] at w3
          exact .inl ⟨w1, .inr (by omega), by omega⟩
        · cases w2
      · exact .inr w
    · rw [loop_cons_nx hput e]
      rcases sp_pass hv P rows x H L st (.fz (.int n)) (.fz (cD c)) y' h hr' with ⟨x', H', L', st', a, b, d, e2, i, w⟩ | w
      · refine .inl ⟨x', H', L', st', a, b, d, e2, i, ?_⟩
        rcases w with w | ⟨w1, w2, w3, w4⟩
        · exact .inl w
        · refine .inr ⟨w1, w2, w3, fun e he => ?_⟩
          rcases List.mem_cons.mp he with q | q
          · subst q; exact .inr z
          · exact w4 e q
      · exact .inr w
theorem sp_while {v : Nat} {t : Tb} {L0 : List Int} (hv : v ≤ 100) (P : Sl) {rows : Tb} (hr : RowsOk v t rows) {fs : List (Str × Fl)} (hfs : getL "rows" fs = some (.ol (rows.map rowD))) : ∀ (n : Nat) (x : List (Int × Int)) (H L : List Int) (y5 y6 y7 : Sl), SpI v t L0 x H L → v + 2 ≤ n + L.length →
    (∃ x' H' L' y5' y6' y7', whileM t0_Search_spread b1_Search_spread n [.ob (some 0) 1 fs, P, .od (dE x), .ol (iL H), .fz (.bl true), y5, y6, y7] = .nx [.ob (some 0) 1 fs, P, .od (dE x'), .ol (iL H'), .fz (.bl false), y5', y6', y7'] ∧ SpI v t L0 x' H' L' ∧ Still L' rows) ∨
    (∃ x' H' S', whileM t0_Search_spread b1_Search_spread n [.ob (some 0) 1 fs, P, .od (dE x), .ol (iL H), .fz (.bl true), y5, y6, y7] = .rs (.tup [.dct (dE x'), .lst (iL H'), .bl true]) (.ob (some 0) 1 fs :: P :: S') ∧ (walkL t L0 H' 0).1 = 2 ∧ (∀ h ∈ H', 0 < h) ∧ H'.length ≤ v + 1)
  | 0, x, H, L, y5, y6, y7, h, hn => by have := h.few; omega
  | n + 1, x, H, L, y5, y6, y7, h, hn => by
    have hfew := h.few
    have hp := sp_pass hv P rows x H L false y5 y6 y7 h hr
    have ht : t0_Search_spread [.ob (some 0) 1 fs, P, .od (dE x), .ol (iL H), .fz (.bl true), y5, y6, y7] = .ok true := by simp [t0_Search_spread]
    have hb1 : ∀ r, unhide 0 0 (.ob (some 0) 1 fs) (loopM (.two 5 6) b0_Search_spread (rows.map rowD) [.hd 0, P, .od (dE x), .ol (iL H), .fz (.bl false), y5, y6, y7]) = r → b1_Search_spread [.ob (some 0) 1 fs, P, .od (dE x), .ol (iL H), .fz (.bl true), y5, y6, y7] = r := by
      intro r e
      unfold b1_Search_spread
      refine seq_nx (S1 := [.ob (some 0) 1 fs, P, .od (dE x), .ol (iL H), .fz (.bl false), y5, y6, y7]) rfl ?_
      unfold mForH
      simp only [List.getElem?_cons_zero, if_true, hfs]
      exact e
    rcases hp with ⟨x', H', L', st', a, b, d, e, i, w⟩ | ⟨x', H', S', e, w1, w2, w3⟩
    · have hb : b1_Search_spread [.ob (some 0) 1 fs, P, .od (dE x), .ol (iL H), .fz (.bl true), y5, y6, y7] = .nx [.ob (some 0) 1 fs, P, .od (dE x'), .ol (iL H'), .fz (.bl st'), a, b, d] := hb1 _ (by rw [e] <;> rfl)
      rcases w with ⟨w1, w2, w3⟩ | ⟨w1, w2, w3, w4⟩
      · subst w1
        have hw : whileM t0_Search_spread b1_Search_spread (n + 1) [.ob (some 0) 1 fs, P, .od (dE x), .ol (iL H), .fz (.bl true), y5, y6, y7] = whileM t0_Search_spread b1_Search_spread n [.ob (some 0) 1 fs, P, .od (dE x'), .ol (iL H'), .fz (.bl true), a, b, d] := by
          conv => lhs; unfold whileM
          rw [ht, toSL_ok, if_pos rfl, hb]
        rw [hw]
        refine sp_while hv P hr hfs n x' H' L' a b d i ?_
        rcases w2 with w2 | w2
        · cases w2
        · omega
      · subst w1; subst w3
        obtain ⟨m, rfl⟩ : ∃ m, n = m + 1 := ⟨n - 1, by omega⟩
        refine .inl ⟨x', H', L', a, b, d, ?_, i, w4⟩
        conv => lhs; unfold whileM
        rw [ht, toSL_ok, if_pos rfl, hb]
        show whileM t0_Search_spread b1_Search_spread (m + 1) [.ob (some 0) 1 fs, P, .od (dE x'), .ol (iL H'), .fz (.bl false), a, b, d] = _
        unfold whileM
        have ht2 : t0_Search_spread [.ob (some 0) 1 fs, P, .od (dE x'), .ol (iL H'), .fz (.bl false), a, b, d] = .ok false := by simp [t0_Search_spread]
        rw [ht2, toSL_ok, if_neg (by decide)]
    · have hb : b1_Search_spread [.ob (some 0) 1 fs, P, .od (dE x), .ol (iL H), .fz (.bl true), y5, y6, y7] = .rs (.tup [.dct (dE x'), .lst (iL H'), .bl true]) (.ob (some 0) 1 fs :: P :: S') := hb1 _ (by rw [e] <;> rfl)
      refine .inr ⟨x', H', S', ?_, w1, w2, w3⟩
      conv => lhs; unfold whileM
      rw [ht, toSL_ok, if_pos rfl, hb]
theorem spI_start {v : Nat} {t : Tb} {L : List Int} (hi : InR v L) (hn : L.Nodup) (hb : ∀ l ∈ L, -l ∉ L) : SpI v t L (madeZ L) [] L := by
  refine ⟨relT_made L (litOk_ne hi) hb, kOk_fold L [] kOk_nil, rfl, by simp, hi, hn, rfl, fun l h => h, madeZ_len L⟩
theorem fspread {v : Nat} {t : Tb} {L0 : List Int} (hv : v ≤ 100) {rows : Tb} (hr : RowsOk v t rows) {fs : List (Str × Fl)} (hfs : getL "rows" fs = some (.ol (rows.map rowD))) (hi : InR v L0) (hn : L0.Nodup) (hb : ∀ l ∈ L0, -l ∉ L0) :
    (∃ x H L, f_Search_spread [.ob (some 0) 1 fs, .fz (.lst (iL L0))] = .ok (.tup [.dct (dE x), .lst (iL H), .bl false]) [.ob (some 0) 1 fs, .un] ∧ SpI v t L0 x H L ∧ Still L rows) ∨
    (∃ x H, f_Search_spread [.ob (some 0) 1 fs, .fz (.lst (iL L0))] = .ok (.tup [.dct (dE x), .lst (iL H), .bl true]) [.ob (some 0) 1 fs, .un] ∧ (walkL t L0 H 0).1 = 2 ∧ (∀ h ∈ H, 0 < h) ∧ H.length ≤ v + 1) := by
  have hs := spI_start (t := t) hi hn hb
  have hfew := hs.few
  have hm := fmade L0 (by omega)
  have h012 : ∀ r, (mSeq s3_Search_spread (mSeq (mFrz 2) (mSeq (mFrz 3) s4_Search_spread))) [.ob (some 0) 1 fs, .fz (.lst (iL L0)), .od (dE (madeZ L0)), .ol (iL []), .fz (.bl true), .un, .un, .un] = r → m_Search_spread [.ob (some 0) 1 fs, .fz (.lst (iL L0)), .un, .un, .un, .un, .un, .un] = r := by
    intro r e
    unfold m_Search_spread
    refine seq_nx (S1 := [.ob (some 0) 1 fs, .fz (.lst (iL L0)), .od (dE (madeZ L0)), .un, .un, .un, .un, .un]) ?_ ?_
    · unfold s0_Search_spread
      have : f_made [.lst (iL L0)] = .od (dE (madeZ L0)) := hm
      unfold mSetND
      simp only [s_aCons, s_getFs, s_getF0, R.bind_ok, s_aNil, this, toND_od]
      rfl
    refine seq_nx (S1 := [.ob (some 0) 1 fs, .fz (.lst (iL L0)), .od (dE (madeZ L0)), .ol (iL []), .un, .un, .un, .un]) (by simp [s1_Search_spread, lim0', iL]) ?_
    exact seq_nx (S1 := [.ob (some 0) 1 fs, .fz (.lst (iL L0)), .od (dE (madeZ L0)), .ol (iL []), .fz (.bl true), .un, .un, .un]) rfl e
  rcases sp_while hv (.fz (.lst (iL L0))) hr hfs 1000 (madeZ L0) [] L0 .un .un .un hs (by omega) with ⟨x, H, L, a, b, d, e, i, w⟩ | ⟨x, H, S', e, w1, w2, w3⟩
  · refine .inl ⟨x, H, L, ?_, i, w⟩
    refine runM_ok (S := [.ob (some 0) 1 fs, .fz (.lst (iL L0))]) (S' := [.ob (some 0) 1 fs, .fz (.lst (iL L0)), .fz (.dct (dE x)), .fz (.lst (iL H)), .fz (.bl false), a, b, d]) (h012 _ ?_) (by simp)
    refine seq_nx (S1 := _) e ?_
    refine seq_nx (S1 := [.ob (some 0) 1 fs, .fz (.lst (iL L0)), .fz (.dct (dE x)), .ol (iL H), .fz (.bl false), a, b, d]) rfl ?_
    refine seq_nx (S1 := [.ob (some 0) 1 fs, .fz (.lst (iL L0)), .fz (.dct (dE x)), .fz (.lst (iL H)), .fz (.bl false), a, b, d]) rfl ?_
    simp [s4_Search_spread, lim3]
  · refine .inr ⟨x, H, ?_, w1, w2, w3⟩
    exact runM_ok (S := [.ob (some 0) 1 fs, .fz (.lst (iL L0))]) (S' := .ob (some 0) 1 fs :: .fz (.lst (iL L0)) :: S') (h012 _ (seq_rs e)) (by simp)
/-! ### making, learning -/
def sp (v : Nat) (rows steps : List D) (m : D) : List (Str × Fl) := [("variables", .fz (.int (v : Int))), ("rows", .ol rows), ("steps", .ol steps), ("model", .fz m)]
def sS (v : Nat) (f : List (List Int)) (cs : List (List Int × List Int)) (m : D) : List (Str × Fl) := sp v (rowsD (f ++ cs.map (·.1))) ((uStps f.length cs).map stD) m
theorem numT_snoc (g : Nat → Int) (f : List (List Int)) (c : List Int) : numT g (f ++ [c]) = numT g f ++ [(g f.length, c)] := by
  unfold numT
  rw [List.length_append, List.length_singleton, List.range_succ, List.map_append]
  congr 1
  · refine List.map_congr_left fun k hk => ?_
    rw [List.mem_range] at hk
    rw [List.getD_eq_getElem?_getD, List.getD_eq_getElem?_getD, List.getElem?_append_left hk]
  · simp
theorem rowsD_snoc (f : List (List Int)) (c : List Int) : rowsD (f ++ [c]) = rowsD f ++ [rowD ((f.length : Int) + 1, c)] := by
  unfold rowsD; rw [numT_snoc, List.map_append]; rfl
theorem rowsD_len (f : List (List Int)) : (rowsD f).length = f.length := by unfold rowsD; rw [List.length_map, numT_len]
theorem sp_variables (v : Nat) (r s : List D) (m : D) : getL "variables" (sp v r s m) = some (.fz (.int (v : Int))) := by simp [getL, sp]
theorem sp_rows (v : Nat) (r s : List D) (m : D) : getL "rows" (sp v r s m) = some (.ol r) := by simp [getL, sp]
theorem sp_steps (v : Nat) (r s : List D) (m : D) : getL "steps" (sp v r s m) = some (.ol s) := by simp [getL, sp]
theorem sp_model (v : Nat) (r s : List D) (m : D) : getL "model" (sp v r s m) = some (.fz m) := by simp [getL, sp]
theorem sp_spread (v : Nat) (r s : List D) (m : D) : getL "spread" (sp v r s m) = none := by simp [getL, sp]
theorem sp_learnt (v : Nat) (r s : List D) (m : D) : getL "learnt" (sp v r s m) = none := by simp [getL, sp]
theorem sp_closed (v : Nat) (r s : List D) (m : D) : getL "closed" (sp v r s m) = none := by simp [getL, sp]
theorem flearnt {v : Nat} {f : List (List Int)} {cs : List (List Int × List Int)} {m : D} {c hs : List Int} (hn : f.length + cs.length ≤ 5000) (hc : c.length ≤ 1000) (hh : hs.length ≤ 2000) :
    f_Search_learnt [.ob (some 0) 1 (sS v f cs m), .fz (.lst (iL c)), .fz (.lst (iL hs))] = .ok (.int ((f.length + cs.length : Nat) + 1 : Int)) [.ob (some 0) 1 (sS v f (cs ++ [(c, hs)]) m), .un, .un] := by
  have hb := big
  have hrl : (rowsD (f ++ cs.map (·.1))).length = f.length + cs.length := by rw [rowsD_len]; simp
  have e0 : getFV 0 1 "rows" [.ob (some 0) 1 (sS v f cs m), .fz (.lst (iL c)), .fz (.lst (iL hs)), .un] = .ok (.lst (rowsD (f ++ cs.map (·.1)))) := s_getFV0 (sp_rows ..)
  refine runM_ok (n := 4) (np := 3) (m := m_Search_learnt) (S := [.ob (some 0) 1 (sS v f cs m), .fz (.lst (iL c)), .fz (.lst (iL hs))]) (S' := [.ob (some 0) 1 (sS v f (cs ++ [(c, hs)]) m), .fz (.lst (iL c)), .fz (.lst (iL hs)), .fz (.int ((f.length + cs.length : Nat) + 1 : Int))]) ?_ (by simp)
  refine seq_nx (S1 := [.ob (some 0) 1 (sS v f cs m), .fz (.lst (iL c)), .fz (.lst (iL hs)), .fz (.int ((f.length + cs.length : Nat) + 1 : Int))]) (by
    show s0_Search_learnt [.ob (some 0) 1 (sS v f cs m), .fz (.lst (iL c)), .fz (.lst (iL hs)), .un] = _
    unfold s0_Search_learnt
    rw [s_mSet]
    simp only [s_m2, s_aCons, e0, R.bind_ok, s_aNil, s_on1, s_lenL, hrl, s_cst, s_addI, toS_ok]
    rfl) ?_
  have q1 := mFApp_eq (i := 0) (c := 1) (f := "rows") (j := some 0) (fs := sS v f cs m) (S := [.ob (some 0) 1 (sS v f cs m), .fz (.lst (iL c)), .fz (.lst (iL hs)), .fz (.int ((f.length + cs.length : Nat) + 1 : Int))]) (m := fun S => (aLim (aCons (getF 3) (aCons (fun S => ((aCons (getV 1) aNil) S).bind (on1 tupD)) aNil)) S).bind fun ds => .ok (.tup ds)) (d := rowD (((f.length + cs.length : Nat) : Int) + 1, c)) rfl (sp_rows ..) (by rw [hrl]; omega) (by
    simp only [s_aLim, s_aCons, s_getFs, s_getF0, s_getVs, s_getV0, R.bind_ok, s_aNil, s_on1, s_tupL, lim2]; rfl)
  refine seq_nx (S1 := [.ob (some 0) 1 (sp v (rowsD (f ++ (cs ++ [(c, hs)]).map (·.1))) ((uStps f.length cs).map stD) m), .fz (.lst (iL c)), .fz (.lst (iL hs)), .fz (.int ((f.length + cs.length : Nat) + 1 : Int))]) (by
    show mFApp _ _ _ _ _ = _
    rw [q1, List.map_append, ← List.append_assoc, show ([(c, hs)] : List (List Int × List Int)).map (·.1) = [c] from rfl, rowsD_snoc]
    simp [sS, sp, putL]) ?_
  have q2 := mFApp_eq (i := 0) (c := 1) (f := "steps") (j := some 0) (fs := sp v (rowsD (f ++ (cs ++ [(c, hs)]).map (·.1))) ((uStps f.length cs).map stD) m) (S := [.ob (some 0) 1 (sp v (rowsD (f ++ (cs ++ [(c, hs)]).map (·.1))) ((uStps f.length cs).map stD) m), .fz (.lst (iL c)), .fz (.lst (iL hs)), .fz (.int ((f.length + cs.length : Nat) + 1 : Int))]) (m := fun S => (aLim (aCons (cst (.str "add")) (aCons (getF 3) (aCons (fun S => ((aCons (getV 1) aNil) S).bind (on1 tupD)) (aCons (fun S => ((aCons (getV 2) aNil) S).bind (on1 tupD)) aNil)))) S).bind fun ds => .ok (.tup ds)) (d := stD (uStep (f.length + cs.length) (c, hs))) rfl (sp_steps ..) (by rw [List.length_map, uStps_len]; omega) (by
    simp only [s_aLim, s_aCons, s_getFs, s_getF0, s_getVs, s_getV0, s_cst, R.bind_ok, s_aNil, s_on1, s_tupL, lim4]; rfl)
  refine seq_nx (S1 := [.ob (some 0) 1 (sS v f (cs ++ [(c, hs)]) m), .fz (.lst (iL c)), .fz (.lst (iL hs)), .fz (.int ((f.length + cs.length : Nat) + 1 : Int))]) (by
    show mFApp _ _ _ _ _ = _
    rw [q2]
    unfold sS
    rw [uStps_app, List.map_append]
    simp [sp, putL, uStps]) ?_
  rfl
theorem fsearch {v : Nat} {f : List (List Int)} (hn : f.length ≤ 1000) : f_Search___init__ [.ob (some 0) 1 [], .fz (.int (v : Int)), .fz (fD f)] = .ok .non [.ob (some 0) 1 (sS v f [] .non), .un, .un] := by
  have hb := big
  obtain ⟨S', e, x, rfl⟩ := loop_nx (t := .one 3) (body := b0_Search___init__) (xs := List.range f.length) (S := [.ob (some 0) 1 (sp v [] [] .non), .fz (.int (v : Int)), .fz (fD f), .un]) (fun i : Nat => D.int (i : Int))
    (fun pre S => ∃ x, S = [.ob (some 0) 1 (sp v ((List.range pre.length).map fun j => rowD (succN j, f.getD j [])) [] .non), .fz (.int (v : Int)), .fz (fD f), x]) (by
      rintro pre k post S hx ⟨x, rfl⟩
      obtain ⟨hk, hkv⟩ := range_split hx
      rw [hk]
      refine ⟨_, [.ob (some 0) 1 (sp v ((List.range (pre ++ [k]).length).map fun j => rowD (succN j, f.getD j [])) [] .non), .fz (.int (v : Int)), .fz (fD f), .fz (.int (k : Int))], rfl, .inl ?_, _, rfl⟩
      have q := mFApp_eq (i := 0) (c := 1) (f := "rows") (j := some 0) (fs := sp v ((List.range k).map fun j => rowD (succN j, f.getD j [])) [] .non) (S := [.ob (some 0) 1 (sp v ((List.range k).map fun j => rowD (succN j, f.getD j [])) [] .non), .fz (.int (v : Int)), .fz (fD f), .fz (.int (k : Int))]) (m := fun S => (aLim (aCons (m2 addD (getV 3) (cst (.int 1))) (aCons (fun S => ((aCons (m2 ixD (getV 2) (getV 3)) aNil) S).bind (on1 tupD)) aNil)) S).bind fun ds => .ok (.tup ds)) (d := rowD (succN k, f.getD k [])) rfl (sp_rows ..) (by simp; omega) (by
        simp only [s_aLim, s_aCons, s_m2, s_getVs, s_getV0, s_cst, s_addI, R.bind_ok, fD_ix hkv, s_aNil, s_on1, cD_tup, lim2]; rfl)
      show b0_Search___init__ [.ob (some 0) 1 (sp v ((List.range k).map fun j => rowD (succN j, f.getD j [])) [] .non), .fz (.int (v : Int)), .fz (fD f), .fz (.int (k : Int))] = _
      unfold b0_Search___init__
      rw [q, List.length_append, hk, show [k].length = 1 from rfl, List.range_succ, List.map_append]
      simp [sp, putL]) ⟨_, rfl⟩
  refine runM_nx (n := 4) (np := 3) (m := m_Search___init__) (S := [.ob (some 0) 1 [], .fz (.int (v : Int)), .fz (fD f)]) (S' := [.ob (some 0) 1 (sS v f [] .non), .fz (.int (v : Int)), .fz (fD f), x]) ?_ (by simp)
  have e0 := mFSet_eq (i := 0) (c := 1) (f := "variables") (j := some 0) (fs := []) (S := [.ob (some 0) 1 [], .fz (.int (v : Int)), .fz (fD f), .un]) (m := getF 1) (d := .int (v : Int)) rfl (by decide) rfl
  have e1 := mFSetN_eq (i := 0) (c := 1) (f := "rows") (j := some 0) (fs := [("variables", .fz (.int (v : Int)))]) (S := [.ob (some 0) 1 [("variables", .fz (.int (v : Int)))], .fz (.int (v : Int)), .fz (fD f), .un]) (m := aLim aNil) (d := []) rfl (by simp) (by simp [lim0'])
  have e2 := mFSetN_eq (i := 0) (c := 1) (f := "steps") (j := some 0) (fs := [("variables", .fz (.int (v : Int))), ("rows", .ol [])]) (S := [.ob (some 0) 1 [("variables", .fz (.int (v : Int))), ("rows", .ol [])], .fz (.int (v : Int)), .fz (fD f), .un]) (m := aLim aNil) (d := []) rfl (by simp) (by simp [lim0'])
  have e3 := mFSet_eq (i := 0) (c := 1) (f := "model") (j := some 0) (fs := [("variables", .fz (.int (v : Int))), ("rows", .ol []), ("steps", .ol [])]) (S := [.ob (some 0) 1 [("variables", .fz (.int (v : Int))), ("rows", .ol []), ("steps", .ol [])], .fz (.int (v : Int)), .fz (fD f), .un]) (m := cst .non) (d := .non) rfl (by simp) rfl
  refine seq_nx (S1 := [.ob (some 0) 1 [("variables", .fz (.int (v : Int)))], .fz (.int (v : Int)), .fz (fD f), .un]) e0 ?_
  refine seq_nx (S1 := [.ob (some 0) 1 [("variables", .fz (.int (v : Int))), ("rows", .ol [])], .fz (.int (v : Int)), .fz (fD f), .un]) (by show mFSetN _ _ _ _ _ = _; rw [e1]; simp [putL]) ?_
  refine seq_nx (S1 := [.ob (some 0) 1 [("variables", .fz (.int (v : Int))), ("rows", .ol []), ("steps", .ol [])], .fz (.int (v : Int)), .fz (fD f), .un]) (by show mFSetN _ _ _ _ _ = _; rw [e2]; simp [putL]) ?_
  refine seq_nx (S1 := [.ob (some 0) 1 (sp v [] [] .non), .fz (.int (v : Int)), .fz (fD f), .un]) (by show mFSet _ _ _ _ _ = _; rw [e3]; simp [putL, sp]) ?_
  show mFor _ _ _ _ = _
  rw [s_mFor]
  have : i0_Search___init__ [.ob (some 0) 1 (sp v [] [] .non), .fz (.int (v : Int)), .fz (fD f), .un] = .ok ((List.range f.length).map fun i : Nat => D.int (i : Int)) := by
    simp only [i0_Search___init__, s_aCons, s_getVs, s_getV0, R.bind_ok, s_aNil, s_on1, fD_len, rng1_nat (show f.length ≤ 1000000 by omega)]
  rw [this, toSL_ok, e, List.length_range]
  simp [sS, rowsD, numT, uStps, Function.comp_def]
end DL
/-! What the program's Search does: closed, solved. -/
namespace DL
open PySem L2

def negL (L : List Int) : List Int := L.map fun l => -l
theorem negL_neg (L : List Int) : (negL L).map (fun l => -l) = L := by unfold negL; rw [List.map_map]; simp [Function.comp_def]
theorem negL_len (L : List Int) : (negL L).length = L.length := by simp [negL]
theorem negL_ne {L : List Int} (h : L ≠ []) : negL L ≠ [] := by cases L <;> simp_all [negL]
theorem negL_InR {v : Nat} {L : List Int} (h : InR v L) : InR v (negL L) := by
  intro l hl
  obtain ⟨a, ha, rfl⟩ := List.mem_map.mp hl
  have := h a ha
  unfold litOk at *
  omega
theorem negL_both {L : List Int} (h : ∀ l ∈ L, -l ∉ L) : bothL (negL L) = false := by
  unfold bothL
  rw [List.any_eq_false]
  intro l hl
  obtain ⟨a, ha, rfl⟩ := List.mem_map.mp hl
  rw [decide_eq_true_iff]
  intro hm
  obtain ⟨b, hb, e⟩ := List.mem_map.mp hm
  exact h a ha (by rw [show -a = b by omega]; exact hb)
theorem rowsOk {v : Nat} {f : List (List Int)} (hf : ∀ c ∈ f, InR v c) (hfl : ∀ c ∈ f, c.length ≤ 1000) {cs : List (List Int × List Int)} (hU : UCh v f cs) : RowsOk v (numT succN (f ++ cs.map (·.1))) (numT succN (f ++ cs.map (·.1))) := by
  intro e he
  have hg := find_key (numT_nodup succN_inj _) he
  obtain ⟨k, hk, h1, h2⟩ := numT_mem he
  have hp := hU.props
  have : InR v e.2 ∧ e.2.length ≤ 1000 := by
    rcases List.mem_append.mp h2 with z | z
    · exact ⟨hf _ z, hfl _ z⟩
    · obtain ⟨p, hp1, hp2⟩ := List.mem_map.mp z
      rw [← hp2]
      exact ⟨(hp p hp1).1, (hp p hp1).2.2.1⟩
  exact ⟨by rw [h1]; unfold succN; omega, hg, this.1, this.2⟩
def cSt (fs : List (Str × Fl)) (L : List Int) (E : D) (x4 x5 x6 : Sl) : List Sl := [.ob (some 0) 1 fs, .fz (.lst (iL L)), .fz E, .fz (.lst (iL (negL L))), x4, x5, x6, .un, .un]
theorem tget_at (A B : List (List Int)) (c : List Int) {n : Nat} (h : A.length = n) : tget (numT succN (A ++ c :: B)) ((n : Int) + 1) = some c := by
  subst h
  rw [numT_get (by simp)]
  simp
theorem learn_eq {v : Nat} {f : List (List Int)} {cs : List (List Int × List Int)} {m : D} {L hs : List Int} {E : D} {x4 x5 x6 : Sl} {ma : List Sl → R (List D)} (hn : f.length + cs.length ≤ 5000) (hL : L.length ≤ 1000) (hh : hs.length ≤ 2000)
    (hm : ma (cSt (sS v f cs m) L E x4 x5 x6) = .ok [.lst (iL (negL L)), .lst (iL hs)]) :
    mRetM (mMeth 0 1 "learnt" f_Search_learnt ma) (cSt (sS v f cs m) L E x4 x5 x6) = .rs (.int ((f.length + cs.length : Nat) + 1 : Int)) (cSt (sS v f (cs ++ [(negL L, hs)]) m) L E x4 x5 x6) := by
  have e := flearnt (v := v) (f := f) (cs := cs) (m := m) (c := negL L) (hs := hs) hn (by rw [negL_len]; exact hL) hh
  rw [s_mRetM, mMeth_ok (j := some 0) (fs := sS v f cs m) (ds := [.lst (iL (negL L)), .lst (iL hs)]) rfl (sp_learnt ..) hm e]
  rfl
theorem call_eq {n v : Nat} {f : List (List Int)} {cs cs' : List (List Int × List Int)} {m' : D} {L L' : List Int} {E d : D} {x4 x5 x6 : Sl} {i : Nat} {ma : List Sl → R (List D)}
    (hm : ma (cSt (sS v f cs .non) L E x4 x5 x6) = .ok [.lst (iL L')]) (e : f_Search_closed n [.ob (some 0) 1 (sS v f cs .non), .fz (.lst (iL L'))] = .ok d [.ob (some 0) 1 (sS v f cs' m'), .un]) :
    mSetM i (mMeth 0 1 "closed" (f_Search_closed n) ma) (cSt (sS v f cs .non) L E x4 x5 x6) = .nx ((cSt (sS v f cs' m') L E x4 x5 x6).set i (.fz d)) := by
  rw [s_mSetM, mMeth_ok (j := some 0) (fs := sS v f cs .non) (ds := [.lst (iL L')]) rfl (sp_closed ..) hm e]
  rfl
theorem fclosed {v : Nat} {f : List (List Int)} (hv : v ≤ 10) (hf : ∀ c ∈ f, InR v c) (hfl : ∀ c ∈ f, c.length ≤ 1000) (hfn : f.length ≤ 100) : ∀ (n : Nat) (L : List Int) (cs : List (List Int × List Int)), v + 1 ≤ n + L.length → InR v L → L.Nodup → (∀ l ∈ L, -l ∉ L) → UCh v f cs → cs.length + 2 ^ (v + 1 - L.length) ≤ 4000 →
    (∃ (d : List (List Int × List Int)) (H : List Int), f_Search_closed n [.ob (some 0) 1 (sS v f cs .non), .fz (.lst (iL L))] = .ok (.int ((f.length + (cs ++ d).length : Nat) + 1 : Int)) [.ob (some 0) 1 (sS v f (cs ++ d ++ [(negL L, H)]) .non), .un] ∧ UCh v f (cs ++ d ++ [(negL L, H)]) ∧ (∀ p ∈ d, p.1 ≠ []) ∧ d.length + 2 ≤ 2 ^ (v + 1 - L.length)) ∨
    (∃ (cs' : List (List Int × List Int)) (σ : Asg), f_Search_closed n [.ob (some 0) 1 (sS v f cs .non), .fz (.lst (iL L))] = .ok (.int 0) [.ob (some 0) 1 (sS v f cs' (.lst (iL (asg v σ)))), .un] ∧ ft σ f = true)
  | 0, L, cs, hn, hi, hnd, hb, hU, hl => by have := few_lits v L hi hnd hb; omega
  | n + 1, L, cs, hn, hi, hnd, hb, hU, hl => by
    have hbig := big
    have hk := few_lits v L hi hnd hb
    have hp2 : 2 ≤ 2 ^ (v + 1 - L.length) := Nat.le_trans (show 2 ≤ 2 ^ 1 by decide) (Nat.pow_le_pow_right (by decide) (by omega))
    have hsp := fspread (show v ≤ 100 by omega) (rowsOk hf hfl hU) (fs := sS v f cs .non) (sp_rows ..) hi hnd hb
    have m0 : ∀ E, f_Search_spread [.ob (some 0) 1 (sS v f cs .non), .fz (.lst (iL L))] = .ok E [.ob (some 0) 1 (sS v f cs .non), .un] → ∀ r, (mSeq (s2_Search_closed (f_Search_closed n)) (mSeq (s3_Search_closed (f_Search_closed n)) (mSeq (s4_Search_closed (f_Search_closed n)) (mSeq (s5_Search_closed (f_Search_closed n)) (mSeq (s6_Search_closed (f_Search_closed n)) (mSeq (s7_Search_closed (f_Search_closed n)) (mSeq (s8_Search_closed (f_Search_closed n)) (s9_Search_closed (f_Search_closed n))))))))) (cSt (sS v f cs .non) L E .un .un .un) = r → m_Search_closed (f_Search_closed n) [.ob (some 0) 1 (sS v f cs .non), .fz (.lst (iL L)), .un, .un, .un, .un, .un, .un, .un] = r := by
      intro E e r er
      unfold m_Search_closed
      refine seq_nx (S1 := [.ob (some 0) 1 (sS v f cs .non), .fz (.lst (iL L)), .fz E, .un, .un, .un, .un, .un, .un]) ?_ ?_
      · unfold s0_Search_closed
        rw [s_mSetM, mMeth_ok (j := some 0) (fs := sS v f cs .non) (ds := [.lst (iL L)]) rfl (sp_spread ..) rfl e]
        rfl
      refine seq_nx (S1 := cSt (sS v f cs .non) L E .un .un .un) ?_ er
      unfold s1_Search_closed
      have hmap : mLc (.one 7) [7] (mItems (getV 1)) mYes (e0_Search_closed (f_Search_closed n)) [.ob (some 0) 1 (sS v f cs .non), .fz (.lst (iL L)), .fz E, .un, .un, .un, .un, .un, .un] = .ok (L.map fun l => D.int (-l)) :=
        mLc_map L D.int _ rfl (by omega) fun l _ => ⟨_, rfl, by simp [e0_Search_closed, wipeS]⟩
      rw [s_mSet, hmap]
      simp only [R.bind_ok, toS_ok]
      unfold cSt negL iL
      rw [List.map_map]
      rfl
    have done : ∀ {d : D} {fs' : List (Str × Fl)} {E : D} {x4 x5 x6 : Sl}, m_Search_closed (f_Search_closed n) [.ob (some 0) 1 (sS v f cs .non), .fz (.lst (iL L)), .un, .un, .un, .un, .un, .un, .un] = .rs d (cSt fs' L E x4 x5 x6) → f_Search_closed (n + 1) [.ob (some 0) 1 (sS v f cs .non), .fz (.lst (iL L))] = .ok d [.ob (some 0) 1 fs', .un] := by
      intro d fs' E x4 x5 x6 e
      show runM 9 2 (m_Search_closed (f_Search_closed n)) _ = _
      exact runM_ok (n := 9) (np := 2) (m := m_Search_closed (f_Search_closed n)) (S := [.ob (some 0) 1 (sS v f cs .non), .fz (.lst (iL L))]) (S' := cSt fs' L E x4 x5 x6) e (by simp [cSt])
    rcases hsp with ⟨x, H, L', e, hI, hS⟩ | ⟨x, H, e, w1, w2, w3⟩
    · -- nothing against it
      have hE2 : ixD (.tup [.dct (dE x), .lst (iL H), .bl false]) (.int 2) = .ok (.bl false) := by
        have : atI [D.dct (dE x), .lst (iL H), .bl false] 2 = some (.bl false) := atI_nat (j := 2) rfl
        simp [this]
      have hE1 : ixD (.tup [.dct (dE x), .lst (iL H), .bl false]) (.int 1) = .ok (.lst (iL H)) := by
        have : atI [D.dct (dE x), .lst (iL H), .bl false] 1 = some (.lst (iL H)) := atI_nat (j := 1) rfl
        simp [this]
      have hE0 : ixD (.tup [.dct (dE x), .lst (iL H), .bl false]) (.int 0) = .ok (.dct (dE x)) := by
        have : atI [D.dct (dE x), .lst (iL H), .bl false] 0 = some (.dct (dE x)) := atI_nat (j := 0) rfl
        simp [this]
      have hHl : H.length ≤ v := by have := hI.few; have := hI.l; omega
      generalize hEE : (D.tup [.dct (dE x), .lst (iL H), .bl false]) = E at *
      have hva : ∀ (fs : List (Str × Fl)) (r s : List D) (m : D) (x4 x5 x6 : Sl), getFV 0 1 "variables" (cSt (sp v r s m) L E x4 x5 x6) = .ok (.int (v : Int)) := fun fs r s m x4 x5 x6 => s_getFV0 (sp_variables ..)
      have hrng : rng2 [.int 1, .int ((v : Int) + 1)] = .ok ((List.range v).map fun k : Nat => D.int (1 + (k : Int))) := by
        rw [rng2_eq (by omega) (by omega) (by omega) (by omega), show ((v : Int) + 1 - 1).toNat = v by omega]
      have hfree : s3_Search_closed (f_Search_closed n) (cSt (sS v f cs .non) L E .un .un .un) = .nx (cSt (sS v f cs .non) L E (.fz (.lst (((List.range v).filter fun k : Nat => (getZ x (1 + (k : Int))).isNone).map fun k : Nat => D.int (1 + (k : Int))))) .un .un) := by
        unfold s3_Search_closed
        have : mLc (.one 8) [8] (i0_Search_closed (f_Search_closed n)) (c0_Search_closed (f_Search_closed n)) (e1_Search_closed (f_Search_closed n)) (cSt (sS v f cs .non) L E .un .un .un) = .ok (((List.range v).filter fun k : Nat => (getZ x (1 + (k : Int))).isNone).map fun k : Nat => D.int (1 + (k : Int))) := by
          refine mLc_eq (List.range v) (fun k : Nat => D.int (1 + (k : Int))) _ _ ?_ (by rw [List.length_range]; omega) fun k hk => ⟨_, rfl, ?_, fun _ => ?_⟩
          · unfold i0_Search_closed
            simp only [s_aCons, s_m2, s_cst, R.bind_ok, hva (sS v f cs .non), sS, s_addI, s_aNil, hrng]
          · unfold c0_Search_closed
            simp only [cSt, wipeS, List.foldl_cons, List.foldl_nil, List.set_cons_zero, List.set_cons_succ, s_m2, s_getVs, s_getV0, s_cst, R.bind_ok, hE0, notInD, s_inK, keyD_dE]
            cases getZ x (1 + (k : Int)) <;> rfl
          · rfl
        rw [s_mSet, this]
        rfl
      have h2 : s2_Search_closed (f_Search_closed n) (cSt (sS v f cs .non) L E .un .un .un) = .nx (cSt (sS v f cs .non) L E .un .un .un) := by
        unfold s2_Search_closed
        exact mIfS_f (by simp [cSt, hE2]) rfl
      cases hfr : (List.range v).filter fun k : Nat => (getZ x (1 + (k : Int))).isNone with
      | nil =>
        have hall : ∀ k, k < v → ∃ y, getZ x ((k : Int) + 1) = some y := by
          intro k hk
          have := List.filter_eq_nil_iff.mp hfr k (List.mem_range.mpr hk)
          rw [Int.add_comm]
          cases hg : getZ x (1 + (k : Int)) with
          | none => rw [hg] at this; exact absurd rfl this
          | some y => exact ⟨y, rfl⟩
        obtain ⟨σ, hσ, hg⟩ := hI.model hall hf (fun c hc => by
          obtain ⟨e, he, rfl⟩ := numT_at (g := succN) (List.mem_append_left (cs.map (·.1)) hc)
          exact hS e he)
        refine .inr ⟨cs, σ, done (E := E) (x4 := .fz (.lst (((List.range v).filter fun k : Nat => (getZ x (1 + (k : Int))).isNone).map fun k : Nat => D.int (1 + (k : Int))))) (x5 := .un) (x6 := .un) (m0 _ e _ ?_), hσ⟩
        refine seq_nx h2 (seq_nx hfree (seq_rs ?_))
        unfold s4_Search_closed
        refine mIfS_t (by simp [cSt, hfr]) ?_
        have hmap : mLc (.one 8) [8] (i1_Search_closed (f_Search_closed n)) mYes (e2_Search_closed (f_Search_closed n)) (cSt (sS v f cs .non) L E (.fz (.lst (((List.range v).filter fun k : Nat => (getZ x (1 + (k : Int))).isNone).map fun k : Nat => D.int (1 + (k : Int))))) .un .un) = .ok ((List.range v).map fun k : Nat => D.int (sg σ (k + 1))) := by
          refine mLc_map (List.range v) (fun k : Nat => D.int (1 + (k : Int))) _ ?_ (by rw [List.length_range]; omega) fun k hk => ⟨_, rfl, ?_⟩
          · unfold i1_Search_closed
            simp only [s_aCons, s_m2, s_cst, R.bind_ok, hva (sS v f cs .non), sS, s_addI, s_aNil, hrng]
          · unfold e2_Search_closed
            have := hg k (List.mem_range.mp hk)
            rw [Int.add_comm] at this
            simp only [cSt, wipeS, List.foldl_cons, List.foldl_nil, List.set_cons_zero, List.set_cons_succ, s_m2, s_getVs, s_getV0, s_cst, R.bind_ok, hE0, s_ixK, keyD_dE, this]
            rfl
        have q := mFSet_eq (i := 0) (c := 1) (f := "model") (j := some 0) (fs := sS v f cs .non) (S := cSt (sS v f cs .non) L E (.fz (.lst (((List.range v).filter fun k : Nat => (getZ x (1 + (k : Int))).isNone).map fun k : Nat => D.int (1 + (k : Int))))) .un .un) (m := fun S => ((mLc (.one 8) [8] (i1_Search_closed (f_Search_closed n)) mYes (e2_Search_closed (f_Search_closed n))) S).bind fun ds => .ok (.lst ds)) (d := .lst (iL (asg v σ))) rfl (by simp [sS, sp]) (by rw [hmap]; simp [iL, asg, Function.comp_def])
        refine seq_nx q ?_
        rw [s_mRetS]
        show SO.rs _ _ = SO.rs _ _
        congr 1
      | cons k0 rest =>
        have hk0 : k0 ∈ (List.range v).filter fun k : Nat => (getZ x (1 + (k : Int))).isNone := by rw [hfr]; exact List.mem_cons_self ..
        obtain ⟨hk1, hk2⟩ := List.mem_filter.mp hk0
        have hkv := List.mem_range.mp hk1
        have hgn : getZ x (1 + (k0 : Int)) = none := by simpa using hk2
        rw [hfr] at hfree
        obtain ⟨k, hkk⟩ : ∃ k : Int, k = 1 + (k0 : Int) := ⟨_, rfl⟩
        have nk : k ∉ L' := fun z => by
          have := (hI.r.2 k (by omega)).mpr z
          rw [show ((k.natAbs : Nat) : Int) = 1 + (k0 : Int) by omega, hgn] at this
          cases this
        have nnk : -k ∉ L' := fun z => by
          have := (hI.r.2 (-k) (by omega)).mpr z
          rw [show (((-k).natAbs : Nat) : Int) = 1 + (k0 : Int) by omega, hgn] at this
          cases this
        have nkL : k ∉ L := fun z => nk (hI.s k z)
        have nnkL : -k ∉ L := fun z => nnk (hI.s _ z)
        have more : ∀ y : Int, (y = k ∨ y = -k) → InR v (L ++ [y]) ∧ (L ++ [y]).Nodup ∧ ∀ l ∈ L ++ [y], -l ∉ L ++ [y] := by
          intro y hy
          have y1 : y ∉ L := by rcases hy with rfl | rfl <;> assumption
          have y2 : -y ∉ L := by rcases hy with rfl | rfl <;> (try rw [Int.neg_neg]) <;> assumption
          have y0 : y ≠ 0 := by omega
          refine ⟨fun l hl => ?_, ?_, fun l hl hm => ?_⟩
          · rcases List.mem_append.mp hl with z | z
            · exact hi l z
            · rw [List.mem_singleton] at z; unfold litOk; omega
          · rw [List.nodup_append]
            refine ⟨hnd, by simp, fun a ha b hb e => ?_⟩
            rw [List.mem_singleton] at hb
            subst hb; subst e
            exact y1 ha
          · rcases List.mem_append.mp hl with z | z
            · rcases List.mem_append.mp hm with w | w
              · exact hb l z w
              · rw [List.mem_singleton] at w; exact y2 (by rw [← w, Int.neg_neg]; exact z)
            · rw [List.mem_singleton] at z
              subst z
              rcases List.mem_append.mp hm with w | w
              · exact y2 w
              · rw [List.mem_singleton] at w; omega
        obtain ⟨FR, hFR⟩ : ∃ FR, FR = D.lst ((k0 :: rest).map fun k : Nat => D.int (1 + (k : Int))) := ⟨_, rfl⟩
        rw [← hFR] at hfree
        have ftr : trD FR = .ok true := by rw [hFR]; rfl
        have fix0 : ixD FR (.int 0) = .ok (.int k) := by
          have : atI (D.int (1 + (k0 : Int)) :: rest.map fun k : Nat => D.int (1 + (k : Int))) 0 = some (.int (1 + (k0 : Int))) := atI_nat (j := 0) rfl
          rw [hFR, hkk, List.map_cons, s_ixL, this]; rfl
        have hcat : ∀ y : Int, addD (.lst (iL L)) (.lst [.int y]) = .ok (.lst (iL (L ++ [y]))) := fun y => by rw [add_lst (by simp [iL]; omega), iL_snoc]
        obtain ⟨Pw, hPw⟩ : ∃ Pw, Pw = 2 ^ (v - L.length) := ⟨_, rfl⟩
        have hP2 : 2 ^ (v + 1 - L.length) = Pw + Pw := by rw [hPw, show v + 1 - L.length = (v - L.length) + 1 by omega, Nat.pow_succ]; omega
        have hLn : ∀ y : Int, v + 1 - (L ++ [y]).length = v - L.length := fun y => by simp
        have h4 : s4_Search_closed (f_Search_closed n) (cSt (sS v f cs .non) L E (.fz FR) .un .un) = .nx (cSt (sS v f cs .non) L E (.fz FR) .un .un) := by
          unfold s4_Search_closed
          exact mIfS_f (by simp [cSt, ftr]) rfl
        have h0s : ∀ (r : SO), (mSeq (s5_Search_closed (f_Search_closed n)) (mSeq (s6_Search_closed (f_Search_closed n)) (mSeq (s7_Search_closed (f_Search_closed n)) (mSeq (s8_Search_closed (f_Search_closed n)) (s9_Search_closed (f_Search_closed n)))))) (cSt (sS v f cs .non) L E (.fz FR) .un .un) = r → m_Search_closed (f_Search_closed n) [.ob (some 0) 1 (sS v f cs .non), .fz (.lst (iL L)), .un, .un, .un, .un, .un, .un, .un] = r := fun r er => m0 _ e _ (seq_nx h2 (seq_nx hfree (seq_nx h4 er)))
        obtain ⟨a1, a2, a3⟩ := more k (.inl rfl)
        obtain ⟨b1, b2, b3⟩ := more (-k) (.inr rfl)
        rcases fclosed hv hf hfl hfn n (L ++ [k]) cs (by simp; omega) a1 a2 a3 hU (by rw [hLn, ← hPw]; omega) with ⟨d1, H1, e1, U1, n1, l1⟩ | ⟨cs', σ, e1, hσ⟩
        · rw [hLn, ← hPw] at l1
          obtain ⟨one, hone⟩ : ∃ one : Int, one = ((f.length + (cs ++ d1).length : Nat) : Int) + 1 := ⟨_, rfl⟩
          rw [← hone] at e1
          obtain ⟨cs1, hcs1⟩ : ∃ cs1, cs1 = cs ++ d1 ++ [(negL (L ++ [k]), H1)] := ⟨_, rfl⟩
          rw [← hcs1] at e1 U1
          have hl1 : cs1.length = cs.length + d1.length + 1 := by rw [hcs1]; simp; omega
          have h5 : s5_Search_closed (f_Search_closed n) (cSt (sS v f cs .non) L E (.fz FR) .un .un) = .nx (cSt (sS v f cs1 .non) L E (.fz FR) (.fz (.int one)) .un) := by
            unfold s5_Search_closed
            rw [call_eq (cs' := cs1) (L' := L ++ [k]) (m' := .non) (d := .int one) (by simp only [cSt, s_aCons, s_m2, s_getVs, s_getV0, s_cst, R.bind_ok, fix0, s_aLim, s_aNil, lim1, hcat]) e1]
            rfl
          have hone0 : ¬ one = 0 := by omega
          have h6 : s6_Search_closed (f_Search_closed n) (cSt (sS v f cs1 .non) L E (.fz FR) (.fz (.int one)) .un) = .nx (cSt (sS v f cs1 .non) L E (.fz FR) (.fz (.int one)) .un) := by
            unfold s6_Search_closed
            exact mIfS_f (by simp [cSt, hone0]) rfl
          rcases fclosed hv hf hfl hfn n (L ++ [-k]) cs1 (by simp; omega) b1 b2 b3 U1 (by rw [hLn, ← hPw]; omega) with ⟨d2, H2, e2, U2, n2, l2⟩ | ⟨cs', σ, e2, hσ⟩
          · rw [hLn, ← hPw] at l2
            obtain ⟨other, hother⟩ : ∃ other : Int, other = ((f.length + (cs1 ++ d2).length : Nat) : Int) + 1 := ⟨_, rfl⟩
            rw [← hother] at e2
            obtain ⟨cs2, hcs2⟩ : ∃ cs2, cs2 = cs1 ++ d2 ++ [(negL (L ++ [-k]), H2)] := ⟨_, rfl⟩
            rw [← hcs2] at e2 U2
            have hl2 : cs2.length = cs1.length + d2.length + 1 := by rw [hcs2]; simp; omega
            have hother0 : ¬ other = 0 := by omega
            have h7 : s7_Search_closed (f_Search_closed n) (cSt (sS v f cs1 .non) L E (.fz FR) (.fz (.int one)) .un) = .nx (cSt (sS v f cs2 .non) L E (.fz FR) (.fz (.int one)) (.fz (.int other))) := by
              unfold s7_Search_closed
              rw [call_eq (cs' := cs2) (L' := L ++ [-k]) (m' := .non) (d := .int other) (by simp only [cSt, s_aCons, s_m2, s_m1, s_getVs, s_getV0, s_cst, R.bind_ok, fix0, s_negI, s_aLim, s_aNil, lim1, hcat]) e2]
              rfl
            have h8 : s8_Search_closed (f_Search_closed n) (cSt (sS v f cs2 .non) L E (.fz FR) (.fz (.int one)) (.fz (.int other))) = .nx (cSt (sS v f cs2 .non) L E (.fz FR) (.fz (.int one)) (.fz (.int other))) := by
              unfold s8_Search_closed
              exact mIfS_f (by simp [cSt, hother0]) rfl
            obtain ⟨dd, hdd⟩ : ∃ dd, dd = d1 ++ [(negL (L ++ [k]), H1)] ++ d2 ++ [(negL (L ++ [-k]), H2)] := ⟨_, rfl⟩
            have hcd : cs ++ dd = cs2 := by rw [hdd, hcs2, hcs1]; simp
            have hcatH : addD (.lst (iL H)) (.lst [.int one, .int other]) = .ok (.lst (iL (H ++ [one, other]))) := by rw [add_lst (by simp [iL]; omega)]; simp [iL]
            have hA0 : f ++ cs2.map (·.1) = (f ++ cs.map (·.1)) ++ dd.map (·.1) := by rw [← hcd]; simp
            have hA1 : f ++ cs2.map (·.1) = (f ++ (cs ++ d1).map (·.1)) ++ negL (L ++ [k]) :: (d2.map (·.1) ++ [negL (L ++ [-k])]) := by rw [hcs2, hcs1]; simp
            have hA2 : f ++ cs2.map (·.1) = (f ++ (cs1 ++ d2).map (·.1)) ++ negL (L ++ [-k]) :: [] := by rw [hcs2]; simp
            have g1 : tget (numT succN (f ++ cs2.map (·.1))) one = some (negL (L ++ [k])) := by rw [hA1, hone]; exact tget_at _ _ _ (by simp)
            have g2 : tget (numT succN (f ++ cs2.map (·.1))) other = some (negL (L ++ [-k])) := by rw [hA2, hother]; exact tget_at _ _ _ (by simp)
            rw [hA0] at g1 g2
            refine .inl ⟨dd, H ++ [one, other], ?_, ?_, fun p hp => ?_, ?_⟩
            · rw [hcd]
              refine done (E := E) (x4 := .fz FR) (x5 := .fz (.int one)) (x6 := .fz (.int other)) (h0s _ (seq_nx h5 (seq_nx h6 (seq_nx h7 (seq_nx h8 ?_)))))
              unfold s9_Search_closed
              refine learn_eq (by omega) (by omega) (by simp; omega) ?_
              simp only [cSt, s_aCons, s_m2, s_getFs, s_getF0, s_getVs, s_getV0, s_cst, R.bind_ok, hE1, s_aLim, s_aNil, lim2, hcatH]
            · rw [hcd]
              refine .snoc U2 (negL_InR hi) (negL_both hb) (by rw [negL_len]; omega) (fun h hh => ?_) (by simp; omega) ?_
              · rcases List.mem_append.mp hh with z | z
                · exact hI.p h z
                · simp only [List.mem_cons, List.not_mem_nil, or_false] at z
                  omega
              · rw [negL_neg, hA0]
                exact hI.both nk nnk (by omega) (by omega) g1 g2
            · rw [hdd] at hp
              simp only [List.mem_append, List.mem_singleton] at hp
              rcases hp with ((z | z) | z) | z
              · exact n1 p z
              · subst z; exact negL_ne (by simp)
              · exact n2 p z
              · subst z; exact negL_ne (by simp)
            · rw [hdd]; simp; omega
          · refine .inr ⟨cs', σ, done (E := E) (x4 := .fz FR) (x5 := .fz (.int one)) (x6 := .fz (.int 0)) (h0s _ (seq_nx h5 (seq_nx h6 (seq_nx (S1 := cSt (sS v f cs' (.lst (iL (asg v σ)))) L E (.fz FR) (.fz (.int one)) (.fz (.int 0))) ?_ (seq_rs ?_))))), hσ⟩
            · unfold s7_Search_closed
              rw [call_eq (cs' := cs') (L' := L ++ [-k]) (m' := .lst (iL (asg v σ))) (d := .int 0) (by simp only [cSt, s_aCons, s_m2, s_m1, s_getVs, s_getV0, s_cst, R.bind_ok, fix0, s_negI, s_aLim, s_aNil, lim1, hcat]) e2]
              rfl
            · unfold s8_Search_closed
              exact mIfS_t (by simp [cSt]) rfl
        · refine .inr ⟨cs', σ, done (E := E) (x4 := .fz FR) (x5 := .fz (.int 0)) (x6 := .un) (h0s _ (seq_nx (S1 := cSt (sS v f cs' (.lst (iL (asg v σ)))) L E (.fz FR) (.fz (.int 0)) .un) ?_ (seq_rs ?_))), hσ⟩
          · unfold s5_Search_closed
            rw [call_eq (cs' := cs') (L' := L ++ [k]) (m' := .lst (iL (asg v σ))) (d := .int 0) (by simp only [cSt, s_aCons, s_m2, s_getVs, s_getV0, s_cst, R.bind_ok, fix0, s_aLim, s_aNil, lim1, hcat]) e1]
            rfl
          · unfold s6_Search_closed
            exact mIfS_t (by simp [cSt]) rfl
    · -- a clause is false
      have hE2 : ixD (.tup [.dct (dE x), .lst (iL H), .bl true]) (.int 2) = .ok (.bl true) := by
        have : atI [D.dct (dE x), .lst (iL H), .bl true] 2 = some (.bl true) := atI_nat (j := 2) rfl
        simp [this]
      have hE1 : ixD (.tup [.dct (dE x), .lst (iL H), .bl true]) (.int 1) = .ok (.lst (iL H)) := by
        have : atI [D.dct (dE x), .lst (iL H), .bl true] 1 = some (.lst (iL H)) := atI_nat (j := 1) rfl
        simp [this]
      refine .inl ⟨[], H, ?_, ?_, by simp, by simpa using hp2⟩
      · rw [List.append_nil]
        refine done (E := .tup [.dct (dE x), .lst (iL H), .bl true]) (x4 := .un) (x5 := .un) (x6 := .un) (m0 _ e _ (seq_rs ?_))
        unfold s2_Search_closed
        refine mIfS_t (by simp [cSt, hE2]) ?_
        refine learn_eq (by omega) (by omega) (by omega) ?_
        simp only [cSt, s_aCons, s_m2, s_getFs, s_getF0, s_getVs, s_getV0, s_cst, R.bind_ok, hE1, s_aNil]
      · rw [List.append_nil]
        exact .snoc hU (negL_InR hi) (negL_both hb) (by rw [negL_len]; omega) w2 (by omega) (by rw [negL_neg]; exact w1)
theorem fsolved {v : Nat} {f : List (List Int)} (hv : v ≤ 10) (hf : ∀ c ∈ f, InR v c) (hfl : ∀ c ∈ f, c.length ≤ 1000) (hfn : f.length ≤ 100) :
    (∃ (cs : List (List Int × List Int)) (H : List Int), f_solved [.int (v : Int), fD f] = .ok (.tup [.non, .lst ((uStps f.length (cs ++ [([], H)])).map stD)]) ∧ UCh v f (cs ++ [([], H)]) ∧ (∀ p ∈ cs, p.1 ≠ []) ∧ cs.length + 2 ≤ 2 ^ (v + 1)) ∨
    (∃ σ : Asg, f_solved [.int (v : Int), fD f] = .ok (.tup [.tup (iL (asg v σ)), .lst []]) ∧ ft σ f = true) := by
  have hp : 2 ^ (v + 1) ≤ 2048 := Nat.le_trans (Nat.pow_le_pow_right (by decide) (show v + 1 ≤ 11 by omega)) (by decide)
  have h0 : ∀ r, (mSeq s1_solved (mSeq s2_solved (mSeq (mFFrz 2 "steps") s3_solved))) [.fz (.int (v : Int)), .fz (fD f), .ob none 1 (sS v f [] .non)] = r → m_solved [.fz (.int (v : Int)), .fz (fD f), .un] = r := by
    intro r e
    unfold m_solved
    refine seq_nx (S1 := [.fz (.int (v : Int)), .fz (fD f), .ob none 1 (sS v f [] .non)]) ?_ e
    unfold s0_solved
    rw [mMk_eq (fs := sS v f [] .non) (ds := [.int (v : Int), fD f]) rfl (fsearch (by omega))]
    rfl
  have hc : ∀ {d : D} {cs' : List (List Int × List Int)} {m' : D}, f_Search_closed 30 [.ob (some 0) 1 (sS v f [] .non), .fz (.lst (iL []))] = .ok d [.ob (some 0) 1 (sS v f cs' m'), .un] → s1_solved [.fz (.int (v : Int)), .fz (fD f), .ob none 1 (sS v f [] .non)] = .nx [.fz (.int (v : Int)), .fz (fD f), .ob none 1 (sS v f cs' m')] := by
    intro d cs' m' e
    unfold s1_solved
    rw [s_mDropM, mMeth_ok (j := none) (fs := sS v f [] .non) (ds := [.lst (iL [])]) rfl (sp_closed ..) (by simp [lim0', iL]) e]
    rfl
  rcases fclosed hv hf hfl hfn 30 [] [] (by simp; omega) (by intro l hl; cases hl) List.nodup_nil (by simp) .nil (by simp; omega) with ⟨d, H, e, U, hne, hl⟩ | ⟨cs', σ, e, hσ⟩
  · rw [List.nil_append] at e U
    refine .inl ⟨d, H, run_rt (m := m_solved) (ds := [.int (v : Int), fD f]) (h0 _ (seq_nx (hc e) ?_)), U, hne, by simpa using hl⟩
    have e2 : getFV 2 1 "model" [.fz (.int (v : Int)), .fz (fD f), .ob none 1 (sS v f (d ++ [(negL [], H)]) .non)] = .ok .non := by
      rw [s_getFVs, s_getFVs]; exact s_getFV0 (sp_model ..)
    refine seq_nx (S1 := [.fz (.int (v : Int)), .fz (fD f), .ob none 1 (sS v f (d ++ [(negL [], H)]) .non)]) ?_ ?_
    · unfold s2_solved
      exact mIfS_f (by simp only [s_m2, e2, s_cst, R.bind_ok, s_isNotN, isNonD, Bool.not_true, s_tBl]) rfl
    have hfs : getL "steps" (sS v f (d ++ [(negL [], H)]) .non) = some (.ol ((uStps f.length (d ++ [(negL [], H)])).map stD)) := sp_steps ..
    refine seq_nx (S1 := [.fz (.int (v : Int)), .fz (fD f), .ob none 1 (putL "steps" (.fz (.lst ((uStps f.length (d ++ [(negL [], H)])).map stD))) (sS v f (d ++ [(negL [], H)]) .non))]) ?_ ?_
    · unfold mFFrz
      simp only [List.getElem?_cons_zero, List.getElem?_cons_succ, hfs]
      rfl
    have e3 : getFF 2 1 "steps" [.fz (.int (v : Int)), .fz (fD f), .ob none 1 (putL "steps" (.fz (.lst ((uStps f.length (d ++ [(negL [], H)])).map stD))) (sS v f (d ++ [(negL [], H)]) .non))] = .ok (.lst ((uStps f.length (d ++ [(negL [], H)])).map stD)) := by
      rw [s_getFFs, s_getFFs]; exact s_getFF0 (by simp [getL, putL, sS, sp])
    unfold s3_solved
    rw [s_mRet]
    simp only [s_aLim, s_aCons, s_cst, e3, R.bind_ok, s_aNil, lim2, toS_ok]
    rfl
  · refine .inr ⟨σ, run_rt (m := m_solved) (ds := [.int (v : Int), fD f]) (h0 _ (seq_nx (hc e) ?_)), hσ⟩
    have e2 : getFV 2 1 "model" [.fz (.int (v : Int)), .fz (fD f), .ob none 1 (sS v f cs' (.lst (iL (asg v σ))))] = .ok (.lst (iL (asg v σ))) := by
      rw [s_getFVs, s_getFVs]; exact s_getFV0 (sp_model ..)
    refine seq_rt ?_
    unfold s2_solved
    refine mIfS_t (by simp only [s_m2, e2, s_cst, R.bind_ok, s_isNotN, isNonD, Bool.not_false, s_tBl]) ?_
    rw [s_mRet]
    simp only [s_aLim, s_aCons, e2, R.bind_ok, s_aNil, s_on1, s_tupL, lim0', lim2, toS_ok]
end DL
namespace DL
open PySem L2
def wD (v : Nat) (f : List (List Int)) : D := .tup [.int (v : Int), fD f]
theorem wD0 (v : Nat) (f : List (List Int)) : ixD (wD v f) (.int 0) = .ok (.int (v : Int)) := by
  have a0 : atI [D.int (v : Int), fD f] 0 = some (.int (v : Int)) := atI_nat (j := 0) rfl
  simp [wD, a0]
theorem wD1 (v : Nat) (f : List (List Int)) : ixD (wD v f) (.int 1) = .ok (fD f) := by
  have a1 : atI [D.int (v : Int), fD f] 1 = some (fD f) := atI_nat (j := 1) rfl
  simp [wD, a1]
theorem pr0 (a b : D) : ixD (.tup [a, b]) (.int 0) = .ok a := by
  have : atI [a, b] 0 = some a := atI_nat (j := 0) rfl
  simp [this]
theorem pr1 (a b : D) : ixD (.tup [a, b]) (.int 1) = .ok b := by
  have : atI [a, b] 1 = some b := atI_nat (j := 1) rfl
  simp [this]
/-- things in places -/
def plL (t p : Nat) : List (List Int) := ((List.range t).map fun i => (List.range p).map fun a => ((p * i + a + 1 : Nat) : Int)) ++
  (List.range p).flatMap fun a => (List.range t).flatMap fun i => (List.range i).map fun j => [-((p * i + a + 1 : Nat) : Int), -((p * j + a + 1 : Nat) : Int)]
structure Fm (v : Nat) (f : List (List Int)) (due : D) : Prop where
  v1 : 1 ≤ v
  v8 : v ≤ 8
  r : ∀ c ∈ f, InR v c
  l : ∀ c ∈ f, c.length ≤ 1000
  n : f.length ≤ 25
  d : due = .non ∨ (due = .bl false ∧ ∀ σ, ft σ f = false) ∨ (due = .bl true ∧ ∃ σ, ft σ f = true)
instance (v : Nat) (c : List Int) : Decidable (InR v c) := by unfold InR litOk; infer_instance
theorem no_models {v : Nat} {f : List (List Int)} (hf : ∀ c ∈ f, InR v c) (h : models v f = []) (σ : Asg) : ft σ f = false := by
  cases e : ft σ f with
  | false => rfl
  | true =>
    have := (mem_models hf).mpr ⟨σ, rfl, e⟩
    rw [h] at this
    cases this
theorem fm_no {t p v : Nat} (h1 : 1 ≤ v) (h8 : v ≤ 8) (r : ∀ c ∈ plL t p, InR v c) (l : ∀ c ∈ plL t p, c.length ≤ 1000) (n : (plL t p).length ≤ 25) (m : models v (plL t p) = []) : Fm v (plL t p) (.bl false) := ⟨h1, h8, r, l, n, .inr (.inl ⟨rfl, no_models r m⟩)⟩
theorem fm32 : Fm 6 (plL 3 2) (.bl false) := fm_no (by decide) (by decide) (by decide +kernel) (by decide +kernel) (by decide +kernel) (by decide +kernel)
theorem fm21 : Fm 2 (plL 2 1) (.bl false) := fm_no (by decide) (by decide) (by decide +kernel) (by decide +kernel) (by decide +kernel) (by decide +kernel)
theorem fm42 : Fm 8 (plL 4 2) (.bl false) := fm_no (by decide) (by decide) (by decide +kernel) (by decide +kernel) (by decide +kernel) (by decide +kernel)
theorem fm_yes {t p v : Nat} (h1 : 1 ≤ v) (h8 : v ≤ 8) (r : ∀ c ∈ plL t p, InR v c) (l : ∀ c ∈ plL t p, c.length ≤ 1000) (n : (plL t p).length ≤ 25) (m : models v (plL t p) ≠ []) : Fm v (plL t p) (.bl true) := by
  refine ⟨h1, h8, r, l, n, .inr (.inr ⟨rfl, ?_⟩)⟩
  cases e : models v (plL t p) with
  | nil => exact absurd e m
  | cons x xs =>
    obtain ⟨σ, _, h⟩ := (mem_models r).mp (show x ∈ models v (plL t p) by rw [e]; exact List.mem_cons_self ..)
    exact ⟨σ, h⟩
theorem fm22 : Fm 4 (plL 2 2) (.bl true) := fm_yes (by decide) (by decide) (by decide +kernel) (by decide +kernel) (by decide +kernel) (by decide +kernel)
theorem fm11 : Fm 1 (plL 1 1) (.bl true) := fm_yes (by decide) (by decide) (by decide +kernel) (by decide +kernel) (by decide +kernel) (by decide +kernel)
theorem fm23 : Fm 6 (plL 2 3) (.bl true) := fm_yes (by decide) (by decide) (by decide +kernel) (by decide +kernel) (by decide +kernel) (by decide +kernel)
theorem fp32 : f__law_places [.int 3, .int 2] = .ok (wD 6 (plL 3 2)) := by kernel_rfl
theorem fp21 : f__law_places [.int 2, .int 1] = .ok (wD 2 (plL 2 1)) := by kernel_rfl
theorem fp42 : f__law_places [.int 4, .int 2] = .ok (wD 8 (plL 4 2)) := by kernel_rfl
theorem fp22 : f__law_places [.int 2, .int 2] = .ok (wD 4 (plL 2 2)) := by kernel_rfl
theorem fp11 : f__law_places [.int 1, .int 1] = .ok (wD 1 (plL 1 1)) := by kernel_rfl
theorem fp23 : f__law_places [.int 2, .int 3] = .ok (wD 6 (plL 2 3)) := by kernel_rfl
theorem pick3 (a b c : D) (j : Nat) (h : j < 3) : ixD (.lst [a, b, c]) (.int (j : Int)) = .ok (if j = 0 then a else if j = 1 then b else c) := by
  have : atI [a, b, c] (j : Int) = some (if j = 0 then a else if j = 1 then b else c) := atI_nat (by
    match j, h with
    | 0, _ => rfl
    | 1, _ => rfl
    | 2, _ => rfl)
  rw [s_ixL, this]; rfl
theorem way0 (j : Nat) (h : j < 3) : ∃ (t p : Int) (v : Nat) (f : List (List Int)), ixD (.lst [.tup [.int 3, .int 2], .tup [.int 2, .int 1], .tup [.int 4, .int 2]]) (.int (j : Int)) = .ok (.tup [.int t, .int p]) ∧ f__law_places [.int t, .int p] = .ok (wD v f) ∧ Fm v f (.bl false) := by
  rw [pick3 _ _ _ j h]
  match j, h with
  | 0, _ => exact ⟨3, 2, 6, _, rfl, fp32, fm32⟩
  | 1, _ => exact ⟨2, 1, 2, _, rfl, fp21, fm21⟩
  | 2, _ => exact ⟨4, 2, 8, _, rfl, fp42, fm42⟩
theorem way1 (j : Nat) (h : j < 3) : ∃ (t p : Int) (v : Nat) (f : List (List Int)), ixD (.lst [.tup [.int 2, .int 2], .tup [.int 1, .int 1], .tup [.int 2, .int 3]]) (.int (j : Int)) = .ok (.tup [.int t, .int p]) ∧ f__law_places [.int t, .int p] = .ok (wD v f) ∧ Fm v f (.bl true) := by
  rw [pick3 _ _ _ j h]
  match j, h with
  | 0, _ => exact ⟨2, 2, 4, _, rfl, fp22, fm22⟩
  | 1, _ => exact ⟨1, 1, 1, _, rfl, fp11, fm11⟩
  | 2, _ => exact ⟨2, 3, 6, _, rfl, fp23, fm23⟩
theorem srt_up (v : Nat) (h : v ≤ 8) : srt ((List.range v).map fun k : Nat => 1 + (k : Int)) = (List.range v).map fun k : Nat => 1 + (k : Int) := by
  have : ∀ v, v < 9 → srt ((List.range v).map fun k : Nat => 1 + (k : Int)) = (List.range v).map fun k : Nat => 1 + (k : Int) := by decide +kernel
  exact this v (by omega)
theorem restL {v : Nat} {f : List (List Int)} {due : D} (h : Fm v f due) (a b x3 x5 x6 : Sl) :
    (mSeq s3_law (mSeq s4_law (mSeq s5_law (mSeq s6_law s7_law)))) [a, b, .fz due, x3, .fz (wD v f), x5, x6, .un, .un, .un, .un, .un] = .rt (.bl true) := by
  have hb := big
  have hv8 := h.v8
  have hfn := h.n
  have hp : 2 ^ (v + 1) ≤ 512 := Nat.le_trans (Nat.pow_le_pow_right (by decide) (show v + 1 ≤ 9 by omega)) (by decide)
  have hlf : lstD (fD f) = .ok (f.map cD) := rfl
  have hfD : D.lst (f.map cD) = fD f := rfl
  have h0 : ∀ c ∈ f, 0 ∉ c := fun c hc => litOk_ne (h.r c hc)
  have h3 : ∀ {d : D}, f_solved [.int (v : Int), fD f] = .ok d → s3_law [a, b, .fz due, x3, .fz (wD v f), x5, x6, .un, .un, .un, .un, .un] = .nx [a, b, .fz due, x3, .fz (wD v f), x5, x6, .fz d, .un, .un, .un, .un] := by
    intro d e
    unfold s3_law
    rw [s_mSet]
    simp only [s_aCons, s_m2, s_getVs, s_getV0, s_cst, R.bind_ok, wD0, wD1, s_aNil, s_onN, hlf, hfD, e, toS_ok]
    rfl
  rcases fsolved (show v ≤ 10 by omega) h.r h.l (show f.length ≤ 100 by omega) with ⟨cs, H, e, U, hne, hl⟩ | ⟨σ, e, hσ⟩
  · obtain ⟨k, hk, hkr⟩ := U.refutes hne
    have hso : ∀ s ∈ uStps f.length (cs ++ [([], H)]), StpOk s := U.stp f.length
    have hno := refuted_sound h0 hso hk hkr
    have hlen : (uStps f.length (cs ++ [([], H)])).length = cs.length + 1 := by rw [uStps_len]; simp
    have hch := fchecked (v := (v : Int)) (steps := uStps f.length (cs ++ [([], H)])) h0 h.l (by omega) hso
    rw [hk] at hch
    have hch : f_checked [.int (v : Int), fD f, .lst ((uStps f.length (cs ++ [([], H)])).map stD)] = .ok (.bl k.r) := hch
    rw [hkr] at hch
    have hdue : isNotD due (.bl true) = .ok (.bl true) := by
      rcases h.d with rfl | ⟨rfl, _⟩ | ⟨_, σ, hσ⟩
      · rfl
      · rfl
      · rw [hno σ] at hσ; cases hσ
    refine seq_nx (h3 e) (seq_rt ?_)
    unfold s4_law
    refine mIfS_t (by simp only [s_m2, s_getVs, s_getV0, s_cst, R.bind_ok, pr0, s_isN, isNonD, s_tBl]) ?_
    rw [s_mRet]
    have hbb : isD (.bl true) (.bl true) = .ok (.bl true) := rfl
    simp only [s_mAnd2, s_m2, s_aCons, s_getVs, s_getV0, s_cst, R.bind_ok, hdue, s_trB, if_true, wD0, wD1, pr1, s_aNil, hch, hbb, toS_ok]
  · refine seq_nx (h3 e) ?_
    obtain ⟨Fd, hFd⟩ : ∃ Fd, Fd = D.tup [.tup (iL (asg v σ)), .lst []] := ⟨_, rfl⟩
    have F0 : ixD Fd (.int 0) = .ok (.tup (iL (asg v σ))) := by rw [hFd, pr0]
    rw [← hFd]
    refine seq_nx (S1 := [a, b, .fz due, x3, .fz (wD v f), x5, x6, .fz Fd, .un, .un, .un, .un]) (by
      unfold s4_law
      exact mIfS_f (by simp only [s_m2, s_getVs, s_getV0, s_cst, R.bind_ok, F0, s_isN, isNonD, s_tBl]) rfl) ?_
    have hmap : mLc (.one 10) [10] (mItems (m2 ixD (getV 7) (cst (.int 0)))) mYes e1_law [a, b, .fz due, x3, .fz (wD v f), x5, x6, .fz Fd, .un, .un, .un, .un] = .ok ((List.range v).map fun k : Nat => D.int (1 + (k : Int))) := by
      refine mLc_map (List.range v) (fun k : Nat => D.int (sg σ (k + 1))) _ ?_ (by rw [List.length_range]; omega) fun k hk => ⟨_, rfl, ?_⟩
      · simp only [s_mItems, s_m2, s_getVs, s_getV0, s_cst, R.bind_ok, F0]
        show R.ok (iL (asg v σ)) = _
        unfold iL asg
        rw [List.map_map]; rfl
      · have : (if sg σ (k + 1) < 0 then -sg σ (k + 1) else sg σ (k + 1)) = 1 + (k : Int) := by
          unfold sg
          cases σ (k + 1) <;> simp <;> omega
        simp [e1_law, wipeS, this]
    obtain ⟨Nm, hNm⟩ : ∃ Nm, Nm = (List.range v).map fun k : Nat => 1 + (k : Int) := ⟨_, rfl⟩
    have hNmD : ((List.range v).map fun k : Nat => D.int (1 + (k : Int))) = Nm.map D.int := by rw [hNm, List.map_map]; rfl
    rw [hNmD] at hmap
    refine seq_nx (S1 := [a, b, .fz due, x3, .fz (wD v f), x5, x6, .fz Fd, .fz (.lst (Nm.map D.int)), .un, .un, .un]) (by
      unfold s5_law
      rw [s_mSet, hmap]
      rfl) ?_
    have hdue : isD due (.bl false) = .ok (.bl false) := by
      rcases h.d with rfl | ⟨_, hn⟩ | ⟨rfl, _⟩
      · rfl
      · rw [hn σ] at hσ; cases hσ
      · rfl
    have hsrt : sortedD (.lst (Nm.map D.int)) = .ok (Nm.map D.int) := by
      rw [sorted_ints, hNm, srt_up v hv8]
    have hrg : lrg2 (.int 1) (.int ((v : Int) + 1)) = .ok (Nm.map D.int) := by
      unfold lrg2
      simp only
      rw [if_pos (by refine ⟨?_, ?_, ?_, ?_, ?_⟩ <;> omega), show ((v : Int) + 1 - 1).toNat = v by omega, hNmD]
    refine seq_nx (S1 := [a, b, .fz due, x3, .fz (wD v f), x5, x6, .fz Fd, .fz (.lst (Nm.map D.int)), .un, .un, .un]) (by
      unfold s6_law
      refine mIfS_f ?_ rfl
      simp only [s_tOr2, s_m2, s_aCons, s_aNil, s_getVs, s_getV0, s_cst, R.bind_ok, hdue, s_tBl, s_onN, hsrt, m2N, wD0, s_addI, hrg, s_neD, eq_iD, decide_true]
      rfl) ?_
    unfold s7_law
    have hin : ∀ l, inD (.int l) (.tup (iL (asg v σ))) = .ok (.bl (decide (l ∈ asg v σ))) := fun l => in_tup l _
    have hall : mLc (.one 11) [11] (mItems (m2 ixD (getV 4) (cst (.int 1)))) mYes e3_law [a, b, .fz due, x3, .fz (wD v f), x5, x6, .fz Fd, .fz (.lst (Nm.map D.int)), .un, .un, .un] = .ok (f.map fun c => .bl true) := by
      refine mLc_map f cD _ ?_ (by omega) fun c hc => ⟨_, rfl, ?_⟩
      · simp only [s_mItems, s_m2, s_getVs, s_getV0, s_cst, R.bind_ok, wD1, fD_items]
      · have hany : mLc (.one 10) [10] (mItems (getV 11)) mYes e2_law [a, b, .fz due, x3, .fz (wD v f), x5, x6, .fz Fd, .fz (.lst (Nm.map D.int)), .un, .un, .fz (cD c)] = .ok (c.map fun l => .bl (decide (l ∈ asg v σ))) := by
          refine mLc_map c D.int _ rfl (by have := h.l c hc; omega) fun l hl => ⟨_, rfl, ?_⟩
          simp only [e2_law, wipeS, List.foldl_cons, List.foldl_nil, List.set_cons_zero, List.set_cons_succ, s_m2, s_getVs, s_getV0, s_cst, R.bind_ok, F0, hin]
        have hc1 : ct σ c = true := by
          unfold ft at hσ
          exact List.all_eq_true.mp hσ c hc
        have hct : (c.any fun l => decide (l ∈ asg v σ)) = true := by
          unfold ct at hc1
          rw [List.any_eq_true] at hc1 ⊢
          obtain ⟨l, h1, h2⟩ := hc1
          exact ⟨l, h1, by rw [mem_asg (h.r c hc l h1)]; exact h2⟩
        show e3_law [a, b, .fz due, x3, .fz (wD v f), x5, x6, .fz Fd, .fz (.lst (Nm.map D.int)), .un, .un, .fz (cD c)] = _
        unfold e3_law
        simp only [s_aCons, hany, R.bind_ok, s_aNil, s_on1, any_map, hct]
    rw [s_mRet]
    simp only [s_aCons, hall, R.bind_ok, s_aNil, s_on1, all_map, toS_ok]
    simp
theorem f_law_true (ns : List Int) (hns : ns.length ≤ 63) : f_law [.scr ns] = .ok (.bl true) := by
  have hb := big
  have hm4 := modI (i := mixZ ns 0) (j := 4) (by decide)
  have hm3 := modI (i := mixZ ns 1) (j := 3) (by decide)
  obtain ⟨j, hj, hjl⟩ := md_nat (mixZ ns 1) (n := 3) (by decide)
  have hj : mixZ ns 1 % 3 = (j : Int) := hj
  refine run_rt ?_
  show m_law [.fz (.scr ns), .un, .un, .un, .un, .un, .un, .un, .un, .un, .un, .un] = _
  refine seq_nx (S1 := [.fz (.scr ns), .fz (.int (mixZ ns 0 % 4)), .un, .un, .un, .un, .un, .un, .un, .un, .un, .un]) (by simp [s0_law, fmix, hm4]) ?_
  refine seq_nx (S1 := [.fz (.scr ns), .fz (.int (mixZ ns 0 % 4)), .fz .non, .un, .un, .un, .un, .un, .un, .un, .un, .un]) rfl ?_
  by_cases c0 : mixZ ns 0 % 4 = 0
  · obtain ⟨t, p, v, f, e1, e2, hF⟩ := way0 j hjl
    refine seq_nx (S1 := [.fz (.scr ns), .fz (.int (mixZ ns 0 % 4)), .fz (.bl false), .fz (.tup [.int t, .int p]), .fz (wD v f), .un, .un, .un, .un, .un, .un, .un]) ?_ (restL hF _ _ _ _ _)
    unfold s2_law
    refine mIfS_t (by simp [c0]) ?_
    refine seq_nx (S1 := [.fz (.scr ns), .fz (.int (mixZ ns 0 % 4)), .fz .non, .fz (.tup [.int t, .int p]), .un, .un, .un, .un, .un, .un, .un, .un]) ?_ ?_
    · rw [s_mSet]
      simp only [s_m2, s_aLim, s_aCons, s_aNil, s_cst, s_getFs, s_getF0, R.bind_ok, lim2, lim3, fmix, hm3, hj, e1, toS_ok]
      rfl
    refine seq_nx (S1 := [.fz (.scr ns), .fz (.int (mixZ ns 0 % 4)), .fz .non, .fz (.tup [.int t, .int p]), .fz (wD v f), .un, .un, .un, .un, .un, .un, .un]) ?_ rfl
    rw [s_mSet]
    simp only [s_m2, s_aCons, s_aNil, s_cst, s_getVs, s_getV0, R.bind_ok, pr0, pr1, e2, toS_ok]
    rfl
  · by_cases c1 : mixZ ns 0 % 4 = 1
    · obtain ⟨t, p, v, f, e1, e2, hF⟩ := way1 j hjl
      refine seq_nx (S1 := [.fz (.scr ns), .fz (.int (mixZ ns 0 % 4)), .fz (.bl true), .fz (.tup [.int t, .int p]), .fz (wD v f), .un, .un, .un, .un, .un, .un, .un]) ?_ (restL hF _ _ _ _ _)
      unfold s2_law
      refine mIfS_f (by simp [c0]) (mIfS_t (by simp [c1]) ?_)
      refine seq_nx (S1 := [.fz (.scr ns), .fz (.int (mixZ ns 0 % 4)), .fz .non, .fz (.tup [.int t, .int p]), .un, .un, .un, .un, .un, .un, .un, .un]) ?_ ?_
      · rw [s_mSet]
        simp only [s_m2, s_aLim, s_aCons, s_aNil, s_cst, s_getFs, s_getF0, R.bind_ok, lim2, lim3, fmix, hm3, hj, e1, toS_ok]
        rfl
      refine seq_nx (S1 := [.fz (.scr ns), .fz (.int (mixZ ns 0 % 4)), .fz .non, .fz (.tup [.int t, .int p]), .fz (wD v f), .un, .un, .un, .un, .un, .un, .un]) ?_ rfl
      rw [s_mSet]
      simp only [s_m2, s_aCons, s_aNil, s_cst, s_getVs, s_getV0, R.bind_ok, pr0, pr1, e2, toS_ok]
      rfl
    · have hm2 := modI (i := mixZ ns 1) (j := 2) (by decide)
      have hm21 := modI (i := mixZ ns 2) (j := 21) (by decide)
      obtain ⟨q, hq, hql⟩ := md_nat (mixZ ns 1) (n := 2) (by decide)
      have hq : mixZ ns 1 % 2 = (q : Int) := hq
      obtain ⟨m, hm, hml⟩ := md_nat (mixZ ns 2) (n := 21) (by decide)
      have hm : mixZ ns 2 % 21 = (m : Int) := hm
      obtain ⟨v, hv⟩ : ∃ v : Nat, v = 5 + q := ⟨_, rfl⟩
      have hvz : (5 : Int) + (q : Int) = (v : Int) := by omega
      obtain ⟨f, hf⟩ : ∃ f : List (List Int), f = (List.range m).map fun k : Nat => clZ ns (3 + 5 * (k : Int)) (v : Int) 3 := ⟨_, rfl⟩
      have hF : Fm v f .non := by
        refine ⟨by omega, by omega, fun c hc => ?_, fun c hc => ?_, by rw [hf]; simp; omega, .inl rfl⟩
        · rw [hf] at hc
          obtain ⟨k, _, rfl⟩ := List.mem_map.mp hc
          have := clZ_ok ns (3 + 5 * (k : Int)) (v := (v : Int)) (by omega) 3
          rw [Int.toNat_natCast] at this
          exact this
        · rw [hf] at hc
          obtain ⟨k, _, rfl⟩ := List.mem_map.mp hc
          have := clZ_len ns (3 + 5 * (k : Int)) (v : Int) (m := 3) (by decide)
          have h6 : (3 : Int).toNat = 3 := rfl
          omega
      refine seq_nx (S1 := [.fz (.scr ns), .fz (.int (mixZ ns 0 % 4)), .fz .non, .un, .fz (wD v f), .fz (.int (v : Int)), .fz (.int (m : Int)), .un, .un, .un, .un, .un]) ?_ (restL hF _ _ _ _ _)
      unfold s2_law
      refine mIfS_f (by simp [c0]) (mIfS_f (by simp [c1]) ?_)
      refine seq_nx (S1 := [.fz (.scr ns), .fz (.int (mixZ ns 0 % 4)), .fz .non, .un, .un, .fz (.int (v : Int)), .un, .un, .un, .un, .un, .un]) (by simp [fmix, hm2, hq, hvz]) ?_
      refine seq_nx (S1 := [.fz (.scr ns), .fz (.int (mixZ ns 0 % 4)), .fz .non, .un, .un, .fz (.int (v : Int)), .fz (.int (m : Int)), .un, .un, .un, .un, .un]) (by simp [fmix, hm21, hm]) ?_
      have hmap : mLc (.one 9) [9] i0_law mYes e0_law [.fz (.scr ns), .fz (.int (mixZ ns 0 % 4)), .fz .non, .un, .un, .fz (.int (v : Int)), .fz (.int (m : Int)), .un, .un, .un, .un, .un] = .ok (f.map cD) := by
        rw [hf, List.map_map]
        refine mLc_map (List.range m) (fun k : Nat => D.int (k : Int)) _ ?_ (by rw [List.length_range]; omega) fun k hk => ⟨_, rfl, ?_⟩
        · simp only [i0_law, s_aCons, s_getVs, s_getV0, R.bind_ok, s_aNil, rng1_nat (show m ≤ 1000000 by omega)]
        · have := fclause ns (3 + 5 * (k : Int)) (v := (v : Int)) (m := 3) (by omega) (by decide) (by decide)
          have hmu := mulL (i := 5) (j := (k : Int)) (by decide) (by decide)
          simp [e0_law, wipeS, this, hmu]
      rw [s_mSet]
      have hfD : D.lst (f.map cD) = fD f := rfl
      simp only [s_aLim, s_aCons, s_getFs, s_getF0, hmap, R.bind_ok, s_aNil, lim2, hfD, toS_ok]
      rfl
end DL
namespace DL
open PySem L2
theorem tht_mk {K : PySem.W.Frag} {cF cS cN cR cT k1 k0 : Addr} (pg_Search : PySem.W.plainGet K k1 Str.empty = true) (hd_Search : PySem.W.hasDictIn K k1 = true) (po_Search : PySem.W.plainOver K k1 = true) (sa_Search : PySem.W.findIn K (.ref k1) "__setattr__" = some (some (.builtin "object.__setattr__"))) (n_Search_variables : PySem.W.findIn K (.ref k1) "variables" = some none) (n_Search_rows : PySem.W.findIn K (.ref k1) "rows" = some none) (n_Search_steps : PySem.W.findIn K (.ref k1) "steps" = some none) (n_Search_model : PySem.W.findIn K (.ref k1) "model" = some none) (pg_Keeper : PySem.W.plainGet K k0 Str.empty = true) (hd_Keeper : PySem.W.hasDictIn K k0 = true) (po_Keeper : PySem.W.plainOver K k0 = true) (sa_Keeper : PySem.W.findIn K (.ref k0) "__setattr__" = some (some (.builtin "object.__setattr__"))) (n_Keeper_variables : PySem.W.findIn K (.ref k0) "variables" = some none) (n_Keeper_table : PySem.W.findIn K (.ref k0) "table" = some none) (n_Keeper_top : PySem.W.findIn K (.ref k0) "top" = some none) (n_Keeper_taken : PySem.W.findIn K (.ref k0) "taken" = some none) (n_Keeper_refuted : PySem.W.findIn K (.ref k0) "refuted" = some none) : Tht K ⟨cF, cS, cN, cR, cT, fun n => match n with | 1 => k1 | 0 => k0 | _ => 0, fun _ => none, 0, .none, none⟩ := ⟨⟨pg_Search, hd_Search, po_Search, sa_Search⟩, n_Search_variables, n_Search_rows, n_Search_steps, n_Search_model, ⟨pg_Keeper, hd_Keeper, po_Keeper, sa_Keeper⟩, n_Keeper_variables, n_Keeper_table, n_Keeper_top, n_Keeper_taken, n_Keeper_refuted⟩
theorem all_mk {l : PySem.W.OpenLaw} {w : World} {K : PySem.W.Frag} {h : Heap} {mg : Str → Option Value} {fa : Addr} {cF cS cN cR cT k1 k0 : Addr} (X : K.In h) (Gn : h.Ns mainGlobals mg) (B : Blt mg) (G : Cst mg) (XT : Xt K mg ⟨cF, cS, cN, cR, cT, fun n => match n with | 1 => k1 | 0 => k0 | _ => 0, fun _ => none, 0, .none, none⟩) (TT : Tht K ⟨cF, cS, cN, cR, cT, fun n => match n with | 1 => k1 | 0 => k0 | _ => 0, fun _ => none, 0, .none, none⟩) (A0 : At K mg "made" (top 7) ["literals"]) (A1 : At K mg "is_true" (top 1) ["truths", "literal"]) (A2 : At K mg "held" (top 6) ["truths", "clause"]) (A3 : At K mg "unlike" (top 4) ["clause"]) (A4 : At K mg "is_false" (top 2) ["truths", "literal"]) (A5 : At K mg "opened" (top 5) ["truths", "clause"]) (A6 : AtM K k1 "spread" "Search.spread" (inClass (top 9) 2) ["self", "literals"]) (A7 : AtM K k1 "learnt" "Search.learnt" (inClass (top 9) 1) ["self", "clause", "hints"]) (A8 : AtM K k1 "closed" "Search.closed" (inClass (top 9) 3) ["self", "literals"]) (A9 : AtI K mg k1 "Search" "Search.__init__" (inClass (top 9) 0) ["self", "variables", "clauses"]) (A10 : At K mg "solved" (top 10) ["variables", "clauses"]) (A11 : At K mg "_law_cell" (top 24) ["_law_script", "_law_k"]) (A12 : At K mg "_law_mix" (top 25) ["_law_script", "_law_k"]) (A13 : At K mg "_law_places" (top 31) ["_law_things", "_law_places_here"]) (A14 : AtI K mg k0 "Keeper" "Keeper.__init__" (inClass (top 21) 0) ["self", "variables", "clauses"]) (A15 : At K mg "has_both" (top 3) ["clause"]) (A16 : At K mg "walked" (top 15) ["table", "truths", "hints"]) (A17 : At K mg "parted" (top 16) ["hints"]) (A18 : At K mg "group_holds" (top 17) ["table", "truths", "first", "number", "hints"]) (A19 : At K mg "groups_hold" (top 18) ["table", "truths", "first", "hints"]) (A20 : At K mg "follows" (top 19) ["table", "clause", "hints"]) (A21 : AtM K k0 "grow" "Keeper.grow" (inClass (top 21) 2) ["self", "number", "clause", "hints"]) (A22 : AtM K k0 "take" "Keeper.take" (inClass (top 21) 1) ["self", "step"]) (A23 : At K mg "checked" (top 22) ["variables", "clauses", "steps"]) (A24 : At K mg "_law_clause" (top 28) ["_law_script", "_law_base", "_law_variables", "_law_most"]) (AL : AtL K (top 32) "_law_script" fa) :
    ∃ fd : FuncData, (∀ (s : Shared) (u : Value), BindsTo s fd ⟨[u], []⟩ [("_law_script", u)]) ∧ ∀ base : Heap, K.In base → base.Ns mainGlobals mg → FnOk l.prog w K mg base (L2.CX l.prog w) 36 fa fd ["_law_script"] (spLaw K) := by
  obtain ⟨fdL, FL, bL⟩ := AL.ex
  obtain ⟨f0, fd0, F0, h0, b0⟩ := A0.ex
  obtain ⟨f1, fd1, F1, h1, b1⟩ := A1.ex
  obtain ⟨f2, fd2, F2, h2, b2⟩ := A2.ex
  obtain ⟨f3, fd3, F3, h3, b3⟩ := A3.ex
  obtain ⟨f4, fd4, F4, h4, b4⟩ := A4.ex
  obtain ⟨f5, fd5, F5, h5, b5⟩ := A5.ex
  obtain ⟨f6, fd6, F6, h6, b6⟩ := A6.ex
  obtain ⟨f7, fd7, F7, h7, b7⟩ := A7.ex
  obtain ⟨f8, fd8, F8, h8, b8⟩ := A8.ex
  obtain ⟨f9, fd9, F9, h9, g9, b9⟩ := A9.ex
  obtain ⟨f10, fd10, F10, h10, b10⟩ := A10.ex
  obtain ⟨f11, fd11, F11, h11, b11⟩ := A11.ex
  obtain ⟨f12, fd12, F12, h12, b12⟩ := A12.ex
  obtain ⟨f13, fd13, F13, h13, b13⟩ := A13.ex
  obtain ⟨f14, fd14, F14, h14, g14, b14⟩ := A14.ex
  obtain ⟨f15, fd15, F15, h15, b15⟩ := A15.ex
  obtain ⟨f16, fd16, F16, h16, b16⟩ := A16.ex
  obtain ⟨f17, fd17, F17, h17, b17⟩ := A17.ex
  obtain ⟨f18, fd18, F18, h18, b18⟩ := A18.ex
  obtain ⟨f19, fd19, F19, h19, b19⟩ := A19.ex
  obtain ⟨f20, fd20, F20, h20, b20⟩ := A20.ex
  obtain ⟨f21, fd21, F21, h21, b21⟩ := A21.ex
  obtain ⟨f22, fd22, F22, h22, b22⟩ := A22.ex
  obtain ⟨f23, fd23, F23, h23, b23⟩ := A23.ex
  obtain ⟨f24, fd24, F24, h24, b24⟩ := A24.ex
  refine ⟨fdL, bL, fun base _ _ => ?_⟩
  have D_made := ok_made (P := l.prog) (w := w) (base := base) (C := ⟨cF, cS, cN, cR, cT, fun n => match n with | 1 => k1 | 0 => k0 | _ => 0, fun _ => none, 0, .none, none⟩) F0 h0 b0 B G XT TT 
  have D_is_true := ok_is_true (P := l.prog) (w := w) (base := base) (C := ⟨cF, cS, cN, cR, cT, fun n => match n with | 1 => k1 | 0 => k0 | _ => 0, fun _ => none, 0, .none, none⟩) F1 h1 b1 B G XT TT 
  have D_held := ok_held (P := l.prog) (w := w) (base := base) (C := ⟨cF, cS, cN, cR, cT, fun n => match n with | 1 => k1 | 0 => k0 | _ => 0, fun _ => none, 0, .none, none⟩) F2 h2 b2 B G XT TT D_is_true
  have D_unlike := ok_unlike (P := l.prog) (w := w) (base := base) (C := ⟨cF, cS, cN, cR, cT, fun n => match n with | 1 => k1 | 0 => k0 | _ => 0, fun _ => none, 0, .none, none⟩) F3 h3 b3 B G XT TT 
  have D_is_false := ok_is_false (P := l.prog) (w := w) (base := base) (C := ⟨cF, cS, cN, cR, cT, fun n => match n with | 1 => k1 | 0 => k0 | _ => 0, fun _ => none, 0, .none, none⟩) F4 h4 b4 B G XT TT 
  have D_opened := ok_opened (P := l.prog) (w := w) (base := base) (C := ⟨cF, cS, cN, cR, cT, fun n => match n with | 1 => k1 | 0 => k0 | _ => 0, fun _ => none, 0, .none, none⟩) F5 h5 b5 B G XT TT D_unlike D_is_false
  have D_Search_spread := ok_Search_spread (P := l.prog) (w := w) (base := base) (C := ⟨cF, cS, cN, cR, cT, fun n => match n with | 1 => k1 | 0 => k0 | _ => 0, fun _ => none, 0, .none, none⟩) F6 h6 b6 B G XT TT D_made D_held D_opened
  have D_Search_learnt := ok_Search_learnt (P := l.prog) (w := w) (base := base) (C := ⟨cF, cS, cN, cR, cT, fun n => match n with | 1 => k1 | 0 => k0 | _ => 0, fun _ => none, 0, .none, none⟩) F7 h7 b7 B G XT TT 
  have D_Search_closed := ok_Search_closed (P := l.prog) (w := w) (base := base) (C := ⟨cF, cS, cN, cR, cT, fun n => match n with | 1 => k1 | 0 => k0 | _ => 0, fun _ => none, 0, .none, none⟩) F8 h8 b8 B G XT TT D_Search_spread D_Search_learnt 30
  have D_Search___init__ := ok_Search___init__ (P := l.prog) (w := w) (base := base) (C := ⟨cF, cS, cN, cR, cT, fun n => match n with | 1 => k1 | 0 => k0 | _ => 0, fun _ => none, 0, .none, none⟩) F9 h9 g9 b9 B G XT TT 
  have D_solved := ok_solved (P := l.prog) (w := w) (base := base) (C := ⟨cF, cS, cN, cR, cT, fun n => match n with | 1 => k1 | 0 => k0 | _ => 0, fun _ => none, 0, .none, none⟩) F10 h10 b10 B G XT TT D_Search___init__ D_Search_closed
  have D__law_cell := ok__law_cell (P := l.prog) (w := w) (base := base) (C := ⟨cF, cS, cN, cR, cT, fun n => match n with | 1 => k1 | 0 => k0 | _ => 0, fun _ => none, 0, .none, none⟩) F11 h11 b11 B G XT TT 
  have D__law_mix := ok__law_mix (P := l.prog) (w := w) (base := base) (C := ⟨cF, cS, cN, cR, cT, fun n => match n with | 1 => k1 | 0 => k0 | _ => 0, fun _ => none, 0, .none, none⟩) F12 h12 b12 B G XT TT D__law_cell
  have D__law_places := ok__law_places (P := l.prog) (w := w) (base := base) (C := ⟨cF, cS, cN, cR, cT, fun n => match n with | 1 => k1 | 0 => k0 | _ => 0, fun _ => none, 0, .none, none⟩) F13 h13 b13 B G XT TT 
  have D_Keeper___init__ := ok_Keeper___init__ (P := l.prog) (w := w) (base := base) (C := ⟨cF, cS, cN, cR, cT, fun n => match n with | 1 => k1 | 0 => k0 | _ => 0, fun _ => none, 0, .none, none⟩) F14 h14 g14 b14 B G XT TT 
  have D_has_both := ok_has_both (P := l.prog) (w := w) (base := base) (C := ⟨cF, cS, cN, cR, cT, fun n => match n with | 1 => k1 | 0 => k0 | _ => 0, fun _ => none, 0, .none, none⟩) F15 h15 b15 B G XT TT 
  have D_walked := ok_walked (P := l.prog) (w := w) (base := base) (C := ⟨cF, cS, cN, cR, cT, fun n => match n with | 1 => k1 | 0 => k0 | _ => 0, fun _ => none, 0, .none, none⟩) F16 h16 b16 B G XT TT D_opened D_is_true
  have D_parted := ok_parted (P := l.prog) (w := w) (base := base) (C := ⟨cF, cS, cN, cR, cT, fun n => match n with | 1 => k1 | 0 => k0 | _ => 0, fun _ => none, 0, .none, none⟩) F17 h17 b17 B G XT TT 
  have D_group_holds := ok_group_holds (P := l.prog) (w := w) (base := base) (C := ⟨cF, cS, cN, cR, cT, fun n => match n with | 1 => k1 | 0 => k0 | _ => 0, fun _ => none, 0, .none, none⟩) F18 h18 b18 B G XT TT D_is_true D_walked
  have D_groups_hold := ok_groups_hold (P := l.prog) (w := w) (base := base) (C := ⟨cF, cS, cN, cR, cT, fun n => match n with | 1 => k1 | 0 => k0 | _ => 0, fun _ => none, 0, .none, none⟩) F19 h19 b19 B G XT TT D_parted D_group_holds
  have D_follows := ok_follows (P := l.prog) (w := w) (base := base) (C := ⟨cF, cS, cN, cR, cT, fun n => match n with | 1 => k1 | 0 => k0 | _ => 0, fun _ => none, 0, .none, none⟩) F20 h20 b20 B G XT TT D_has_both D_made D_walked D_groups_hold
  have D_Keeper_grow := ok_Keeper_grow (P := l.prog) (w := w) (base := base) (C := ⟨cF, cS, cN, cR, cT, fun n => match n with | 1 => k1 | 0 => k0 | _ => 0, fun _ => none, 0, .none, none⟩) F21 h21 b21 B G XT TT D_follows
  have D_Keeper_take := ok_Keeper_take (P := l.prog) (w := w) (base := base) (C := ⟨cF, cS, cN, cR, cT, fun n => match n with | 1 => k1 | 0 => k0 | _ => 0, fun _ => none, 0, .none, none⟩) F22 h22 b22 B G XT TT D_Keeper_grow
  have D_checked := ok_checked (P := l.prog) (w := w) (base := base) (C := ⟨cF, cS, cN, cR, cT, fun n => match n with | 1 => k1 | 0 => k0 | _ => 0, fun _ => none, 0, .none, none⟩) F23 h23 b23 B G XT TT D_Keeper___init__ D_Keeper_take
  have D__law_clause := ok__law_clause (P := l.prog) (w := w) (base := base) (C := ⟨cF, cS, cN, cR, cT, fun n => match n with | 1 => k1 | 0 => k0 | _ => 0, fun _ => none, 0, .none, none⟩) F24 h24 b24 B G XT TT D__law_mix
  exact law_end (ok_law (P := l.prog) (w := w) (base := base) (C := ⟨cF, cS, cN, cR, cT, fun n => match n with | 1 => k1 | 0 => k0 | _ => 0, fun _ => none, 0, .none, none⟩) FL B G XT TT D__law_mix D__law_places D__law_clause D_solved D_checked) f_law_true
end DL
open PySem PySem.W PyProof.Rows
set_option maxRecDepth 100000 in
set_option maxHeartbeats 0 in
theorem PySem.Challenge.cw_clausekeep_k21_solved_wide_holds : PySem.Challenge.rw_clausekeep_k21_solved_wide.Holds := by
  w_on; o_law; k_head; (case hw => w_witness2)
  k_fill
  refine DL.law_walk (k := 36) (l := PySem.Challenge.rw_clausekeep_k21_solved_wide) (x := "_law_script") rfl rfl ⟨rfl, by decide, by decide⟩ (fun w h Y => PySem.W.kIn_of Y) ?F
  case F =>
    intro w mg fa h KX G hmg
    refine' DL.all_mk (cF := 0) (cS := 0) (cR := 0) (cT := 0) KX G (DL.blt_mk KX G ?z0 ?z1 ?z2 ?z3 ?z4 ?z5 ?z6 ?z7 ?z8 ?z9 ?z10 ?z11 ?z12 ?z13 ?z14 ?z15 ?z16 ?z17) ⟨True.intro⟩ ⟨PySem.W.mg_of KX G ?m_NotRight, DL.low_mk_NotRight KX G ?y0_NotRight ?y1_NotRight ?y2_NotRight ?y3_NotRight ?y4_NotRight ?y5_NotRight ?y6_NotRight ?y7_NotRight ?y8_NotRight ?y9_NotRight ?ya_NotRight ?yb_NotRight ?yc_NotRight ?yd_NotRight⟩ (DL.tht_mk ?pg_Search ?hd_Search ?po_Search ?sa_Search ?n_Search_variables ?n_Search_rows ?n_Search_steps ?n_Search_model ?pg_Keeper ?hd_Keeper ?po_Keeper ?sa_Keeper ?n_Keeper_variables ?n_Keeper_table ?n_Keeper_top ?n_Keeper_taken ?n_Keeper_refuted) (DL.at_mk KX G ?a0 ?l0 ?c_0 ?k0 (fun _ _ _ _ _ _ us hl => match us, hl with | [_], _ => rfl)) (DL.at_mk KX G ?a1 ?l1 ?c_1 ?k1 (fun _ _ _ _ _ _ us hl => match us, hl with | [_, _], _ => rfl)) (DL.at_mk KX G ?a2 ?l2 ?c_2 ?k2 (fun _ _ _ _ _ _ us hl => match us, hl with | [_, _], _ => rfl)) (DL.at_mk KX G ?a3 ?l3 ?c_3 ?k3 (fun _ _ _ _ _ _ us hl => match us, hl with | [_], _ => rfl)) (DL.at_mk KX G ?a4 ?l4 ?c_4 ?k4 (fun _ _ _ _ _ _ us hl => match us, hl with | [_, _], _ => rfl)) (DL.at_mk KX G ?a5 ?l5 ?c_5 ?k5 (fun _ _ _ _ _ _ us hl => match us, hl with | [_, _], _ => rfl)) (DL.atM_mk ?a6 ?i6 ?l6 ?c_6 ?k6 (fun _ _ _ _ _ _ us hl => match us, hl with | [_, _], _ => rfl)) (DL.atM_mk ?a7 ?i7 ?l7 ?c_7 ?k7 (fun _ _ _ _ _ _ us hl => match us, hl with | [_, _, _], _ => rfl)) (DL.atM_mk ?a8 ?i8 ?l8 ?c_8 ?k8 (fun _ _ _ _ _ _ us hl => match us, hl with | [_, _], _ => rfl)) (DL.atI_mk KX G ?ac_Search ?mk_Search ?kc_Search ?a9 ?i9 ?l9 ?c_9 ?k9 (fun _ _ _ _ _ _ us hl => match us, hl with | [_, _, _], _ => rfl)) (DL.at_mk KX G ?a10 ?l10 ?c_10 ?k10 (fun _ _ _ _ _ _ us hl => match us, hl with | [_, _], _ => rfl)) (DL.at_mk KX G ?a11 ?l11 ?c_11 ?k11 (fun _ _ _ _ _ _ us hl => match us, hl with | [_, _], _ => rfl)) (DL.at_mk KX G ?a12 ?l12 ?c_12 ?k12 (fun _ _ _ _ _ _ us hl => match us, hl with | [_, _], _ => rfl)) (DL.at_mk KX G ?a13 ?l13 ?c_13 ?k13 (fun _ _ _ _ _ _ us hl => match us, hl with | [_, _], _ => rfl)) (DL.atI_mk KX G ?ac_Keeper ?mk_Keeper ?kc_Keeper ?a14 ?i14 ?l14 ?c_14 ?k14 (fun _ _ _ _ _ _ us hl => match us, hl with | [_, _, _], _ => rfl)) (DL.at_mk KX G ?a15 ?l15 ?c_15 ?k15 (fun _ _ _ _ _ _ us hl => match us, hl with | [_], _ => rfl)) (DL.at_mk KX G ?a16 ?l16 ?c_16 ?k16 (fun _ _ _ _ _ _ us hl => match us, hl with | [_, _, _], _ => rfl)) (DL.at_mk KX G ?a17 ?l17 ?c_17 ?k17 (fun _ _ _ _ _ _ us hl => match us, hl with | [_], _ => rfl)) (DL.at_mk KX G ?a18 ?l18 ?c_18 ?k18 (fun _ _ _ _ _ _ us hl => match us, hl with | [_, _, _, _, _], _ => rfl)) (DL.at_mk KX G ?a19 ?l19 ?c_19 ?k19 (fun _ _ _ _ _ _ us hl => match us, hl with | [_, _, _, _], _ => rfl)) (DL.at_mk KX G ?a20 ?l20 ?c_20 ?k20 (fun _ _ _ _ _ _ us hl => match us, hl with | [_, _, _], _ => rfl)) (DL.atM_mk ?a21 ?i21 ?l21 ?c_21 ?k21 (fun _ _ _ _ _ _ us hl => match us, hl with | [_, _, _, _], _ => rfl)) (DL.atM_mk ?a22 ?i22 ?l22 ?c_22 ?k22 (fun _ _ _ _ _ _ us hl => match us, hl with | [_, _], _ => rfl)) (DL.at_mk KX G ?a23 ?l23 ?c_23 ?k23 (fun _ _ _ _ _ _ us hl => match us, hl with | [_, _, _], _ => rfl)) (DL.at_mk KX G ?a24 ?l24 ?c_24 ?k24 (fun _ _ _ _ _ _ us hl => match us, hl with | [_, _, _, _], _ => rfl)) (DL.atL_mk KX G hmg ?la ?ll ?lc ?lk (fun _ _ _ _ _ _ _ => rfl))
    (case ac_Search => k_is); (case mk_Search => k_is); (case kc_Search => k_is); (case pg_Search => k_is); (case hd_Search => k_is); (case po_Search => k_is); (case sa_Search => k_is); (case n_Search_variables => k_is); (case n_Search_rows => k_is); (case n_Search_steps => k_is); (case n_Search_model => k_is)
    (case ac_Keeper => k_is); (case mk_Keeper => k_is); (case kc_Keeper => k_is); (case pg_Keeper => k_is); (case hd_Keeper => k_is); (case po_Keeper => k_is); (case sa_Keeper => k_is); (case n_Keeper_variables => k_is); (case n_Keeper_table => k_is); (case n_Keeper_top => k_is); (case n_Keeper_taken => k_is); (case n_Keeper_refuted => k_is)
    (case m_NotRight => (try dsimp only); k_is)
    (case y0_NotRight => (try dsimp only); k_is)
    (case y1_NotRight => (try dsimp only); k_is)
    (case y2_NotRight => (try dsimp only); k_is)
    (case y3_NotRight => (try dsimp only); k_is)
    (case y4_NotRight => (try dsimp only); k_is)
    (case y5_NotRight => (try dsimp only); k_is)
    (case y6_NotRight => (try dsimp only); k_is)
    (case y7_NotRight => (try dsimp only); k_is)
    (case y8_NotRight => (try dsimp only); k_is)
    (case y9_NotRight => (try dsimp only); k_is)
    (case ya_NotRight => (try dsimp only); k_is)
    (case yb_NotRight => (try dsimp only); k_is)
    (case yc_NotRight => (try dsimp only); k_is)
    (case yd_NotRight => (try dsimp only); k_is)
    (case z0 => k_is)
    (case z1 => k_is)
    (case z2 => k_is)
    (case z3 => k_is)
    (case z4 => k_is)
    (case z5 => k_is)
    (case z6 => k_is)
    (case z7 => k_is)
    (case z8 => k_is)
    (case z9 => k_is)
    (case z10 => k_is)
    (case z11 => k_is)
    (case z12 => k_is)
    (case z13 => k_is)
    (case z14 => k_is)
    (case z15 => k_is)
    (case z16 => k_is)
    (case z17 => k_is)
    (case a0 => k_is); (case l0 => k_is); (case c_0 => k_is); (case k0 => k_is)
    (case a1 => k_is); (case l1 => k_is); (case c_1 => k_is); (case k1 => k_is)
    (case a2 => k_is); (case l2 => k_is); (case c_2 => k_is); (case k2 => k_is)
    (case a3 => k_is); (case l3 => k_is); (case c_3 => k_is); (case k3 => k_is)
    (case a4 => k_is); (case l4 => k_is); (case c_4 => k_is); (case k4 => k_is)
    (case a5 => k_is); (case l5 => k_is); (case c_5 => k_is); (case k5 => k_is)
    (case a6 => k_is); (case i6 => k_is); (case l6 => k_is); (case c_6 => k_is); (case k6 => k_is)
    (case a7 => k_is); (case i7 => k_is); (case l7 => k_is); (case c_7 => k_is); (case k7 => k_is)
    (case a8 => k_is); (case i8 => k_is); (case l8 => k_is); (case c_8 => k_is); (case k8 => k_is)
    (case a9 => k_is); (case i9 => k_is); (case l9 => k_is); (case c_9 => k_is); (case k9 => k_is)
    (case a10 => k_is); (case l10 => k_is); (case c_10 => k_is); (case k10 => k_is)
    (case a11 => k_is); (case l11 => k_is); (case c_11 => k_is); (case k11 => k_is)
    (case a12 => k_is); (case l12 => k_is); (case c_12 => k_is); (case k12 => k_is)
    (case a13 => k_is); (case l13 => k_is); (case c_13 => k_is); (case k13 => k_is)
    (case a14 => k_is); (case i14 => k_is); (case l14 => k_is); (case c_14 => k_is); (case k14 => k_is)
    (case a15 => k_is); (case l15 => k_is); (case c_15 => k_is); (case k15 => k_is)
    (case a16 => k_is); (case l16 => k_is); (case c_16 => k_is); (case k16 => k_is)
    (case a17 => k_is); (case l17 => k_is); (case c_17 => k_is); (case k17 => k_is)
    (case a18 => k_is); (case l18 => k_is); (case c_18 => k_is); (case k18 => k_is)
    (case a19 => k_is); (case l19 => k_is); (case c_19 => k_is); (case k19 => k_is)
    (case a20 => k_is); (case l20 => k_is); (case c_20 => k_is); (case k20 => k_is)
    (case a21 => k_is); (case i21 => k_is); (case l21 => k_is); (case c_21 => k_is); (case k21 => k_is)
    (case a22 => k_is); (case i22 => k_is); (case l22 => k_is); (case c_22 => k_is); (case k22 => k_is)
    (case a23 => k_is); (case l23 => k_is); (case c_23 => k_is); (case k23 => k_is)
    (case a24 => k_is); (case l24 => k_is); (case c_24 => k_is); (case k24 => k_is)
    (case la => k_is); (case ll => k_is); (case lc => k_is); (case lk => k_is)
