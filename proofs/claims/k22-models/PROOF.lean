import PyProof.Rows.All
import Wide.All
import OpenK.AllK
import Wide.FinOn
import HandS.ForMost
import HandS.Exc
import HandS.TryOnly
import HandS.ExcOwn
import HandS.WordsExc
import HandS.Flow
import HandS.TupAny
import HandS.IsInst
import HandS.SortInts
import HandS.More
import HandS.TupLe
import HandS.Deep
import PyProof.FactsAll.list_3
import KE.KMinBuiltin
import KE.DataMinKey
import HandS.SortKw
import PyProof.FactsAll.list_4
import KE.IntTextLaws
import PySem.Challenge.RW_clausekeep_k22_models_told
set_option Elab.async false
set_option linter.all false
set_option maxRecDepth 100000
set_option maxHeartbeats 4000000
/-! The data layer, part A: data, what stands for it in the heap, states, judgements. -/
namespace DL
open PySem L2

inductive D where
  | non | bl (b : Bool) | int (i : Int) | str (s : Str) | lst (xs : List D) | tup (xs : List D) | dct (es : List (Int × D)) | scr (ns : List Int)

mutual
inductive Rp (K : PySem.W.Frag) (F : Hp) : V → D → Prop
  | non : Rp K F .non .non
  | bl (b : Bool) : Rp K F (.bl b) (.bl b)
  | int (i : Int) : Rp K F (.int i) (.int i)
  | str (x : Str) : Rp K F (.str x) (.str x)
  | lst {a : Addr} {vs : List V} {ds : List D} : F a = some (.lst vs) → RpA K F vs ds → Rp K F (.ref a) (.lst ds)
  | tup {a : Addr} {vs : List V} {ds : List D} : F a = some (.tup vs) → RpA K F vs ds → Rp K F (.ref a) (.tup ds)
  | dct {a : Addr} {kvs : List (Key × V)} {es : List (Int × D)} : Rd F a (.dK kvs) → RpK K F kvs es → Rp K F (.ref a) (.dct es)
  | scr {a : Addr} {ns : List Int} : SqL K F a (ns.map V.int) → Rp K F (.ref a) (.scr ns)
inductive RpA (K : PySem.W.Frag) (F : Hp) : List V → List D → Prop
  | nil : RpA K F [] []
  | cons {v : V} {vs : List V} {d : D} {ds : List D} : Rp K F v d → RpA K F vs ds → RpA K F (v :: vs) (d :: ds)
inductive RpK (K : PySem.W.Frag) (F : Hp) : List (Key × V) → List (Int × D) → Prop
  | nil : RpK K F [] []
  | cons {k : Int} {v : V} {vs : List (Key × V)} {d : D} {ds : List (Int × D)} : Rp K F v d → RpK K F vs ds → RpK K F ((.inl k, v) :: vs) ((k, d) :: ds)
end
section
variable {K : PySem.W.Frag} {F F' : Hp}
theorem rd_mono {a : Addr} {u : HO} (e : Same F F') (h : Rd F a u) : Rd F' a u := by
  rcases h with h | ⟨o, h⟩
  · exact .inl (e _ _ h)
  · exact .inr ⟨o, e _ _ h⟩
mutual
theorem Rp.mono (e : Same F F') : ∀ (d : D) (v : V), Rp K F v d → Rp K F' v d
  | .non, _, h => by cases h; exact .non
  | .bl b, _, h => by cases h; exact .bl b
  | .int i, _, h => by cases h; exact .int i
  | .str i, _, h => by cases h; exact .str i
  | .lst ds, _, h => by
    cases h with
    | lst h1 h2 => exact .lst (e _ _ h1) (RpA.mono e ds _ h2)
  | .tup ds, _, h => by
    cases h with
    | tup h1 h2 => exact .tup (e _ _ h1) (RpA.mono e ds _ h2)
  | .dct es, _, h => by
    cases h with
    | dct h1 h2 => exact .dct (rd_mono e h1) (RpK.mono e es _ h2)
  | .scr ns, _, h => by
    cases h with
    | scr h1 => exact .scr (e.seq h1)
theorem RpA.mono (e : Same F F') : ∀ (ds : List D) (vs : List V), RpA K F vs ds → RpA K F' vs ds
  | [], _, h => by cases h; exact .nil
  | d :: ds, _, h => by
    cases h with
    | cons h1 h2 => exact .cons (Rp.mono e d _ h1) (RpA.mono e ds _ h2)
theorem RpK.mono (e : Same F F') : ∀ (ds : List (Int × D)) (vs : List (Key × V)), RpK K F vs ds → RpK K F' vs ds
  | [], _, h => by cases h; exact .nil
  | (k, d) :: ds, _, h => by
    cases h with
    | cons h1 h2 => exact .cons (Rp.mono e d _ h1) (RpK.mono e ds _ h2)
end
theorem Rp.up {v : V} {d : D} (h : Rp K F v d) (e : Same F F') : Rp K F' v d := Rp.mono e d v h
theorem RpA.up {v : List V} {d : List D} (h : RpA K F v d) (e : Same F F') : RpA K F' v d := RpA.mono e d v h
theorem RpK.up {v : List (Key × V)} {d : List (Int × D)} (h : RpK K F v d) (e : Same F F') : RpK K F' v d := RpK.mono e d v h
theorem RpA.len : ∀ {vs : List V} {ds : List D}, RpA K F vs ds → vs.length = ds.length
  | [], _, h => by cases h; rfl
  | v :: vs, _, h => by
    cases h with
    | cons h1 h2 => simp [RpA.len h2]
theorem RpA.app : ∀ {vs : List V} {ds : List D} {ws : List V} {es : List D}, RpA K F vs ds → RpA K F ws es → RpA K F (vs ++ ws) (ds ++ es)
  | [], _, _, _, h, g => by cases h; exact g
  | v :: vs, _, _, _, h, g => by
    cases h with
    | cons h1 h2 => exact .cons h1 (RpA.app h2 g)
theorem RpA.one {v : V} {d : D} (h : Rp K F v d) : RpA K F [v] [d] := .cons h .nil
theorem RpA.getV : ∀ {vs : List V} {ds : List D} {i : Nat} {v : V}, RpA K F vs ds → vs[i]? = some v → ∃ d, ds[i]? = some d ∧ Rp K F v d
  | [], _, i, _, h, e => by simp at e
  | w :: vs, _, 0, v, h, e => by
    cases h with
    | cons h1 h2 =>
      simp at e; subst e
      exact ⟨_, rfl, h1⟩
  | w :: vs, _, i + 1, v, h, e => by
    cases h with
    | cons h1 h2 =>
      obtain ⟨d, q, r⟩ := RpA.getV (i := i) h2 (by simpa using e)
      exact ⟨d, by simpa using q, r⟩
theorem RpA.getD : ∀ {vs : List V} {ds : List D} {i : Nat} {d : D}, RpA K F vs ds → ds[i]? = some d → ∃ v, vs[i]? = some v ∧ Rp K F v d
  | _, [], i, _, h, e => by simp at e
  | _, w :: vs, 0, v, h, e => by
    cases h with
    | cons h1 h2 =>
      simp at e; subst e
      exact ⟨_, rfl, h1⟩
  | _, w :: vs, i + 1, v, h, e => by
    cases h with
    | cons h1 h2 =>
      obtain ⟨d, q, r⟩ := RpA.getD (i := i) h2 (by simpa using e)
      exact ⟨d, by simpa using q, r⟩
theorem RpA.drop : ∀ {vs : List V} {ds : List D} (n : Nat), RpA K F vs ds → RpA K F (vs.drop n) (ds.drop n)
  | _, _, 0, h => h
  | [], _, n + 1, h => by cases h; exact .nil
  | v :: vs, _, n + 1, h => by
    cases h with
    | cons h1 h2 => exact RpA.drop n h2
theorem RpA.take : ∀ {vs : List V} {ds : List D} (n : Nat), RpA K F vs ds → RpA K F (vs.take n) (ds.take n)
  | _, _, 0, h => .nil
  | [], _, n + 1, h => by cases h; exact .nil
  | v :: vs, _, n + 1, h => by
    cases h with
    | cons h1 h2 => exact .cons h1 (RpA.take n h2)
end

/-! ### results -/
inductive Exn where
  | noFormula (i : Int) | noStep | notRight (i : Int) | noRef | tooMany
inductive R (α : Type) where
  | ok (a : α) | exc (e : Exn) | bad
def R.bind {α β : Type} : R α → (α → R β) → R β
  | .ok a, f => f a
  | .exc e, _ => .exc e
  | .bad, _ => .bad
@[simp] theorem R.bind_ok {α β : Type} (a : α) (f : α → R β) : (R.ok a).bind f = f a := id rfl
@[simp] theorem R.bind_exc {α β : Type} (e : Exn) (f : α → R β) : (R.exc e).bind f = .exc e := id rfl
@[simp] theorem R.bind_bad {α β : Type} (f : α → R β) : (R.bad : R α).bind f = .bad := id rfl
/-- where nothing may be raised -/
def R.calm {α : Type} : R α → R α
  | .ok a => .ok a
  | _ => .bad

/-- the addresses of the program's own exception classes -/
structure CL where
  cF : Addr
  cS : Addr
  cN : Addr
  cR : Addr
  cT : Addr
def ExcIs (C : CL) (H : Hp) (cls : Value) (d : Option Addr) : Exn → Prop
  | .noFormula x => cls = .ref C.cF ∧ ∃ dd : Addr, d = some dd ∧ H dd = some (.xd [(("line" : Str), .int x)])
  | .noStep => cls = .ref C.cS
  | .notRight x => cls = .ref C.cN ∧ ∃ dd : Addr, d = some dd ∧ H dd = some (.xd [(("place" : Str), .int x)])
  | .noRef => cls = .ref C.cR
  | .tooMany => cls = .ref C.cT

/-! ### the heap grows -/
structure Ext (F H F' H' : Hp) : Prop where
  ff : Same F F'
  fh : Same F' H'
  hh : Same H H'
  old : ∀ a o, H a = some o → F' a = F a
section
variable {F H F1 H1 F2 H2 : Hp}
theorem Ext.refl (h : Same F H) : Ext F H F H := ⟨Same.refl _, h, Same.refl _, fun _ _ _ => rfl⟩
theorem Ext.trans (a : Ext F H F1 H1) (b : Ext F1 H1 F2 H2) : Ext F H F2 H2 :=
  ⟨a.ff.trans b.ff, b.fh, a.hh.trans b.hh, fun p o h => (b.old p o (a.hh p o h)).trans (a.old p o h)⟩
theorem Ext.from (a : Ext F H F1 H1) : Ext F1 H1 F1 H1 := Ext.refl a.fh
theorem same_new {p : Addr} {o : HO} (h : H p = none) : Same H (upd H p o) := fun b u q => by rw [upd_ne (ne_of_none q h)]; exact q
theorem none_of {p : Addr} (e : Same F H) (h : H p = none) : F p = none := e.free h
/-- a new object, known to all -/
theorem Ext.new {p : Addr} {o : HO} (h : Same F H) (hp : H p = none) : Ext F H (upd F p o) (upd H p o) := by
  have fp : F p = none := none_of h hp
  refine ⟨same_new fp, fun b u q => ?_, same_new hp, fun b u q => by rw [upd_ne (ne_of_none q hp)]⟩
  by_cases e : b = p
  · subst e; rw [upd_same] at q ⊢; exact q
  · rw [upd_ne e] at q ⊢; exact h _ _ q
/-- a new object, kept apart -/
theorem Ext.newO {p : Addr} {o : HO} (h : Same F H) (hp : H p = none) : Ext F H F (upd H p o) :=
  ⟨Same.refl _, h.trans (same_new hp), same_new hp, fun _ _ _ => rfl⟩
/-- an object that was kept apart, known to all from now on -/
theorem Ext.froz {p : Addr} {o : HO} (a : Ext F H F1 H1) (h0 : H p = none) (h1 : H1 p = some o) (hf : F1 p = none) : Ext F H (upd F1 p o) H1 := by
  refine ⟨a.ff.trans (same_new hf), fun b u q => ?_, a.hh, fun b u q => ?_⟩
  · by_cases e : b = p
    · subst e; rw [upd_same] at q; cases q; exact h1
    · rw [upd_ne e] at q; exact a.fh _ _ q
  · rw [upd_ne (ne_of_none q h0)]; exact a.old b u q
end

/-! ### what is to follow -/
def Wish (C : CL) (W : WX) (σ : St) (F H : Hp) (e : Exn) : Prop := ∀ cls d F' H', Ext F H F' H' → ExcIs C H' cls d e → W cls d σ H'
theorem Wish.up {C : CL} {W : WX} {σ : St} {F H F1 H1 : Hp} {e : Exn} (h : Wish C W σ F H e) (x : Ext F H F1 H1) : Wish C W σ F1 H1 e := fun cls d F' H' y z => h cls d F' H' (x.trans y) z
def Post (C : CL) (K : PySem.W.Frag) (W : WX) (σ : St) (F H : Hp) (r : R D) (Q : VK) : Prop := match r with
  | .ok x => ∀ v F' H', Ext F H F' H' → Rp K F' v x → Q v H'
  | .exc e => Wish C W σ F H e
  | .bad => False
def PostT (C : CL) (K : PySem.W.Frag) (W : WX) (σ : St) (F H : Hp) (r : R Bool) (Q : Bool → Hp → Prop) : Prop := match r with
  | .ok b => ∀ F' H', Ext F H F' H' → Q b H'
  | .exc e => Wish C W σ F H e
  | .bad => False
def Vw (K : PySem.W.Frag) (F H : Hp) (v : V) (d : D) : Prop :=
  Rp K F v d ∨ (∃ p ws es, v = .ref p ∧ d = .lst es ∧ H p = some (.lst ws) ∧ RpA K F ws es) ∨ ∃ p kvs es, v = .ref p ∧ d = .dct es ∧ H p = some (.dK kvs) ∧ RpK K F kvs es
/-- a list of values, read at once -/
inductive VwA (K : PySem.W.Frag) (F H : Hp) : List V → List D → Prop
  | nil : VwA K F H [] []
  | cons {v : V} {vs : List V} {d : D} {ds : List D} : Vw K F H v d → VwA K F H vs ds → VwA K F H (v :: vs) (d :: ds)
section
variable {C : CL} {K : PySem.W.Frag} {W : WX} {σ : St} {F H F1 H1 : Hp} {v : V} {d : D}
theorem Vw.of (h : Rp K F v d) : Vw K F H v d := .inl h
theorem Vw.up (h : Vw K F H v d) (e : Ext F H F1 H1) : Vw K F1 H1 v d := by
  rcases h with h | ⟨p, ws, es, h1, h2, h3, h4⟩ | ⟨p, ws, es, h1, h2, h3, h4⟩
  · exact .inl (h.up e.ff)
  · exact .inr (.inl ⟨p, ws, es, h1, h2, e.hh _ _ h3, h4.up e.ff⟩)
  · exact .inr (.inr ⟨p, ws, es, h1, h2, e.hh _ _ h3, h4.up e.ff⟩)
theorem Vw.rp (h : Vw K F H v d) (e : Same F H) : Rp K H v d := by
  rcases h with h | ⟨p, ws, es, h1, h2, h3, h4⟩ | ⟨p, ws, es, h1, h2, h3, h4⟩
  · exact h.up e
  · subst h1 h2
    exact .lst h3 (h4.up e)
  · subst h1 h2
    exact .dct (.inl h3) (h4.up e)
theorem VwA.up : ∀ {vs : List V} {ds : List D}, VwA K F H vs ds → Ext F H F1 H1 → VwA K F1 H1 vs ds
  | _, _, .nil, _ => .nil
  | _, _, .cons h t, e => .cons (Vw.up h e) (VwA.up t e)
theorem VwA.rp : ∀ {vs : List V} {ds : List D}, VwA K F H vs ds → Same F H → RpA K H vs ds
  | _, _, .nil, _ => .nil
  | _, _, .cons h t, e => .cons (Vw.rp h e) (VwA.rp t e)
theorem VwA.of : ∀ {vs : List V} {ds : List D}, RpA K F vs ds → VwA K F H vs ds
  | _, [], h => by cases h; exact .nil
  | _, d :: ds, h => by
    cases h with
    | cons h1 h2 => exact .cons (.inl h1) (VwA.of h2)
end
def PostV (C : CL) (K : PySem.W.Frag) (W : WX) (σ : St) (F H : Hp) (r : R D) (Q : VK) : Prop := match r with
  | .ok x => ∀ v F' H', Ext F H F' H' → Vw K F' H' v x → Q v H'
  | .exc e => Wish C W σ F H e
  | .bad => False
def PostA (C : CL) (K : PySem.W.Frag) (W : WX) (σ : St) (F H : Hp) (r : R (List D)) (Q : List V → Hp → Prop) : Prop := match r with
  | .ok x => ∀ v F' H', Ext F H F' H' → VwA K F' H' v x → Q v H'
  | .exc e => Wish C W σ F H e
  | .bad => False
/-- arguments that are known to all -/
def PostAR (C : CL) (K : PySem.W.Frag) (W : WX) (σ : St) (F H : Hp) (r : R (List D)) (Q : List V → Hp → Prop) : Prop := match r with
  | .ok x => ∀ v F' H', Ext F H F' H' → RpA K F' v x → Q v H'
  | .exc e => Wish C W σ F H e
  | .bad => False
/-- a new list that nobody else knows -/
def PostN (C : CL) (K : PySem.W.Frag) (W : WX) (σ : St) (F H : Hp) (r : R (List D)) (Q : VK) : Prop := match r with
  | .ok ds => ∀ p vs F' H', Ext F H F' H' → H p = none → F' p = none → H' p = some (.lst vs) → RpA K F' vs ds → Q (.ref p) H'
  | .exc e => Wish C W σ F H e
  | .bad => False
def PostND (C : CL) (K : PySem.W.Frag) (W : WX) (σ : St) (F H : Hp) (r : R (List (Int × D))) (Q : VK) : Prop := match r with
  | .ok ds => ∀ p vs F' H', Ext F H F' H' → H p = none → F' p = none → H' p = some (.dK vs) → RpK K F' vs ds → Q (.ref p) H'
  | .exc e => Wish C W σ F H e
  | .bad => False

section
variable {C : CL} {K : PySem.W.Frag} {W : WX} {σ : St} {F H F1 H1 : Hp}
theorem Post.up {r : R D} {Q : VK} (h : Post C K W σ F H r Q) (e : Ext F H F1 H1) : Post C K W σ F1 H1 r Q := by
  cases r with
  | ok x => exact fun v F' H' y z => h v F' H' (e.trans y) z
  | exc x => exact Wish.up h e
  | bad => exact h
theorem PostV.up {r : R D} {Q : VK} (h : PostV C K W σ F H r Q) (e : Ext F H F1 H1) : PostV C K W σ F1 H1 r Q := by
  cases r with
  | ok x => exact fun v F' H' y z => h v F' H' (e.trans y) z
  | exc x => exact Wish.up h e
  | bad => exact h
theorem PostA.up {r : R (List D)} {Q : List V → Hp → Prop} (h : PostA C K W σ F H r Q) (e : Ext F H F1 H1) : PostA C K W σ F1 H1 r Q := by
  cases r with
  | ok x => exact fun v F' H' y z => h v F' H' (e.trans y) z
  | exc x => exact Wish.up h e
  | bad => exact h
theorem PostAR.up {r : R (List D)} {Q : List V → Hp → Prop} (h : PostAR C K W σ F H r Q) (e : Ext F H F1 H1) : PostAR C K W σ F1 H1 r Q := by
  cases r with
  | ok x => exact fun v F' H' y z => h v F' H' (e.trans y) z
  | exc x => exact Wish.up h e
  | bad => exact h
theorem PostT.up {r : R Bool} {Q : Bool → Hp → Prop} (h : PostT C K W σ F H r Q) (e : Ext F H F1 H1) : PostT C K W σ F1 H1 r Q := by
  cases r with
  | ok x => exact fun F' H' y => h F' H' (e.trans y)
  | exc x => exact Wish.up h e
  | bad => exact h
theorem PostN.up {r : R (List D)} {Q : VK} (h : PostN C K W σ F H r Q) (e : Ext F H F1 H1) : PostN C K W σ F1 H1 r Q := by
  cases r with
  | ok x => exact fun p vs F' H' y h0 hf hp z => h p vs F' H' (e.trans y) (e.hh.free h0) hf hp z
  | exc x => exact Wish.up h e
  | bad => exact h
theorem PostND.up {r : R (List (Int × D))} {Q : VK} (h : PostND C K W σ F H r Q) (e : Ext F H F1 H1) : PostND C K W σ F1 H1 r Q := by
  cases r with
  | ok x => exact fun p vs F' H' y h0 hf hp z => h p vs F' H' (e.trans y) (e.hh.free h0) hf hp z
  | exc x => exact Wish.up h e
  | bad => exact h
/-- one part, then what is made of it: PX is the later wish -/
theorem Post.bind {α : Type} {r : R D} {f : D → R α} {G : Hp → Hp → R α → Prop} {Q : VK} (h : G F H (r.bind f)) (up : ∀ F1 H1 x, Ext F H F1 H1 → G F H x → G F1 H1 x) (ge : ∀ e, G F H (.exc e) → Wish C W σ F H e) (gb : G F H .bad → False)
    (k : ∀ x v F1 H1, Ext F H F1 H1 → Rp K F1 v x → G F1 H1 (f x) → Q v H1) : Post C K W σ F H r Q := by
  cases r with
  | ok x => exact fun v F1 H1 e r => k x v F1 H1 e r (up F1 H1 _ e h)
  | exc e => exact ge e h
  | bad => exact gb h
theorem PostV.bind {α : Type} {r : R D} {f : D → R α} {G : Hp → Hp → R α → Prop} {Q : VK} (h : G F H (r.bind f)) (up : ∀ F1 H1 x, Ext F H F1 H1 → G F H x → G F1 H1 x) (ge : ∀ e, G F H (.exc e) → Wish C W σ F H e) (gb : G F H .bad → False)
    (k : ∀ x v F1 H1, Ext F H F1 H1 → Vw K F1 H1 v x → G F1 H1 (f x) → Q v H1) : PostV C K W σ F H r Q := by
  cases r with
  | ok x => exact fun v F1 H1 e r => k x v F1 H1 e r (up F1 H1 _ e h)
  | exc e => exact ge e h
  | bad => exact gb h
theorem PostA.bind {α : Type} {r : R (List D)} {f : List D → R α} {G : Hp → Hp → R α → Prop} {Q : List V → Hp → Prop} (h : G F H (r.bind f)) (up : ∀ F1 H1 x, Ext F H F1 H1 → G F H x → G F1 H1 x) (ge : ∀ e, G F H (.exc e) → Wish C W σ F H e) (gb : G F H .bad → False)
    (k : ∀ x v F1 H1, Ext F H F1 H1 → VwA K F1 H1 v x → G F1 H1 (f x) → Q v H1) : PostA C K W σ F H r Q := by
  cases r with
  | ok x => exact fun v F1 H1 e r => k x v F1 H1 e r (up F1 H1 _ e h)
  | exc e => exact ge e h
  | bad => exact gb h
theorem PostAR.bind {α : Type} {r : R (List D)} {f : List D → R α} {G : Hp → Hp → R α → Prop} {Q : List V → Hp → Prop} (h : G F H (r.bind f)) (up : ∀ F1 H1 x, Ext F H F1 H1 → G F H x → G F1 H1 x) (ge : ∀ e, G F H (.exc e) → Wish C W σ F H e) (gb : G F H .bad → False)
    (k : ∀ x v F1 H1, Ext F H F1 H1 → RpA K F1 v x → G F1 H1 (f x) → Q v H1) : PostAR C K W σ F H r Q := by
  cases r with
  | ok x => exact fun v F1 H1 e r => k x v F1 H1 e r (up F1 H1 _ e h)
  | exc e => exact ge e h
  | bad => exact gb h
theorem PostT.bind {α : Type} {r : R Bool} {f : Bool → R α} {G : Hp → Hp → R α → Prop} {Q : Bool → Hp → Prop} (h : G F H (r.bind f)) (up : ∀ F1 H1 x, Ext F H F1 H1 → G F H x → G F1 H1 x) (ge : ∀ e, G F H (.exc e) → Wish C W σ F H e) (gb : G F H .bad → False)
    (k : ∀ x F1 H1, Ext F H F1 H1 → G F1 H1 (f x) → Q x H1) : PostT C K W σ F H r Q := by
  cases r with
  | ok x => exact fun F1 H1 e => k x F1 H1 e (up F1 H1 _ e h)
  | exc e => exact ge e h
  | bad => exact gb h
/-- known to all: a new list -/
theorem PostN.of_post {r : R (List D)} {Q : VK} (h : Post C K W σ F H (r.bind fun ds => .ok (.lst ds)) Q) : PostN C K W σ F H r Q := by
  cases r with
  | ok ds => exact fun p vs F' H' e h0 hf hp ra => h (.ref p) (upd F' p (.lst vs)) H' (e.froz h0 hp hf) (.lst upd_same (ra.up (same_new hf)))
  | exc x => exact h
  | bad => exact h
theorem PostND.of_post {r : R (List (Int × D))} {Q : VK} (h : Post C K W σ F H (r.bind fun ds => .ok (.dct ds)) Q) : PostND C K W σ F H r Q := by
  cases r with
  | ok ds => exact fun p vs F' H' e h0 hf hp ra => h (.ref p) (upd F' p (.dK vs)) H' (e.froz h0 hp hf) (.dct (.inl upd_same) (ra.up (same_new hf)))
  | exc x => exact h
  | bad => exact h
end

/-! ### a def's slots -/
inductive Sl where
  | un | fz (d : D) | ol (ds : List D) | od (es : List (Int × D))
def Sl.own : Sl → Bool
  | .ol _ => true
  | .od _ => true
  | _ => false
def SlR (K : PySem.W.Frag) (F H : Hp) (v : Option V) (s : Sl) : Prop := match s with
  | .un => True
  | .fz d => ∃ u, v = some u ∧ Rp K F u d
  | .ol ds => ∃ p vs, v = some (.ref p) ∧ F p = none ∧ H p = some (.lst vs) ∧ RpA K F vs ds
  | .od es => ∃ p vs, v = some (.ref p) ∧ F p = none ∧ H p = some (.dK vs) ∧ RpK K F vs es
structure Ok (K : PySem.W.Frag) (F0 H0 F H : Hp) (σ : St) (S : List Sl) : Prop where
  sub : Same F H
  f0 : Same F0 F
  h0 : Same H0 H
  old : ∀ a o, H0 a = some o → F a = F0 a
  len : σ.length = S.length
  sl : ∀ (i : Nat) (s : Sl) (v : Option V), S[i]? = some s → σ[i]? = some v → SlR K F H v s
  own : ∀ (i : Nat) (s : Sl) (p : Addr), S[i]? = some s → s.own = true → σ[i]? = some (some (.ref p)) → H0 p = none
  dist : ∀ (i j : Nat) (s t : Sl) (p : Addr), S[i]? = some s → S[j]? = some t → s.own = true → t.own = true → σ[i]? = some (some (.ref p)) → σ[j]? = some (some (.ref p)) → i = j
section
variable {K : PySem.W.Frag} {F0 H0 F H F1 H1 : Hp} {σ : St} {S : List Sl}
theorem SlR.up {v : Option V} {s : Sl} (h : SlR K F H v s) (e : Ext F H F1 H1) : SlR K F1 H1 v s := by
  cases s with
  | un => trivial
  | fz d => obtain ⟨u, h1, h2⟩ := h; exact ⟨u, h1, h2.up e.ff⟩
  | ol ds => obtain ⟨p, vs, h1, h2, h3, h4⟩ := h; exact ⟨p, vs, h1, (e.old p _ h3).trans h2, e.hh _ _ h3, h4.up e.ff⟩
  | od ds => obtain ⟨p, vs, h1, h2, h3, h4⟩ := h; exact ⟨p, vs, h1, (e.old p _ h3).trans h2, e.hh _ _ h3, h4.up e.ff⟩
theorem Ok.ext (o : Ok K F0 H0 F H σ S) : Ext F0 H0 F H := ⟨o.f0, o.sub, o.h0, o.old⟩
theorem Ok.up (o : Ok K F0 H0 F H σ S) (e : Ext F H F1 H1) : Ok K F0 H0 F1 H1 σ S where
  sub := e.fh
  f0 := o.f0.trans e.ff
  h0 := o.h0.trans e.hh
  old := (o.ext.trans e).old
  len := o.len
  sl := fun i s v h1 h2 => (o.sl i s v h1 h2).up e
  own := o.own
  dist := o.dist
theorem Ok.at {i : Nat} {s : Sl} (o : Ok K F0 H0 F H σ S) (h : S[i]? = some s) : ∃ v, σ[i]? = some v ∧ SlR K F H v s := by
  have hi : i < σ.length := by rw [o.len]; exact (List.getElem?_eq_some_iff.mp h).1
  exact ⟨σ[i], List.getElem?_eq_getElem hi, o.sl i s _ h (List.getElem?_eq_getElem hi)⟩
/-- a slot is stored: known to all, or unknown -/
theorem Ok.set {i : Nat} {v : Option V} {s : Sl} (o : Ok K F0 H0 F H σ S) (hs : s.own = false) (h : SlR K F H v s) : Ok K F0 H0 F H (σ.set i v) (S.set i s) where
  sub := o.sub
  f0 := o.f0
  h0 := o.h0
  old := o.old
  len := by simp [o.len]
  sl := fun j t w h1 h2 => by
    by_cases e : i = j
    · subst e
      have hi : i < S.length := by have := (List.getElem?_eq_some_iff.mp h1).1; simpa using this
      have hi' : i < σ.length := by rw [o.len]; exact hi
      rw [List.getElem?_set_self hi] at h1
      rw [List.getElem?_set_self hi'] at h2
      cases h1; cases h2; exact h
    · rw [List.getElem?_set_ne e] at h1 h2
      exact o.sl j t w h1 h2
  own := fun j t p h1 ht h2 => by
    by_cases e : i = j
    · subst e
      have hi : i < S.length := by have := (List.getElem?_eq_some_iff.mp h1).1; simpa using this
      rw [List.getElem?_set_self hi] at h1
      cases h1; rw [hs] at ht; cases ht
    · rw [List.getElem?_set_ne e] at h1 h2
      exact o.own j t p h1 ht h2
  dist := fun j k t u p h1 h2 ht hu h3 h4 => by
    by_cases e : i = j
    · subst e
      have hi : i < S.length := by have := (List.getElem?_eq_some_iff.mp h1).1; simpa using this
      rw [List.getElem?_set_self hi] at h1
      cases h1; rw [hs] at ht; cases ht
    · by_cases e' : i = k
      · subst e'
        have hi : i < S.length := by have := (List.getElem?_eq_some_iff.mp h2).1; simpa using this
        rw [List.getElem?_set_self hi] at h2
        cases h2; rw [hs] at hu; cases hu
      · rw [List.getElem?_set_ne e] at h1 h3
        rw [List.getElem?_set_ne e'] at h2 h4
        exact o.dist j k t u p h1 h2 ht hu h3 h4
/-- a slot is stored: a new object of one's own, unlike all others -/
theorem Ok.setO {i : Nat} {p : Addr} {s : Sl} (o : Ok K F0 H0 F H σ S) (h0 : H0 p = none) (hn : ∀ (j : Nat) (t : Sl), S[j]? = some t → t.own = true → σ[j]? ≠ some (some (.ref p))) (h : SlR K F H (some (.ref p)) s) :
    Ok K F0 H0 F H (σ.set i (some (.ref p))) (S.set i s) where
  sub := o.sub
  f0 := o.f0
  h0 := o.h0
  old := o.old
  len := by simp [o.len]
  sl := fun j t w h1 h2 => by
    by_cases e : i = j
    · subst e
      have hi : i < S.length := by have := (List.getElem?_eq_some_iff.mp h1).1; simpa using this
      have hi' : i < σ.length := by rw [o.len]; exact hi
      rw [List.getElem?_set_self hi] at h1
      rw [List.getElem?_set_self hi'] at h2
      cases h1; cases h2; exact h
    · rw [List.getElem?_set_ne e] at h1 h2
      exact o.sl j t w h1 h2
  own := fun j t q h1 ht h2 => by
    by_cases e : i = j
    · subst e
      have hi : i < S.length := by have := (List.getElem?_eq_some_iff.mp h1).1; simpa using this
      have hi' : i < σ.length := by rw [o.len]; exact hi
      rw [List.getElem?_set_self hi'] at h2
      cases h2; exact h0
    · rw [List.getElem?_set_ne e] at h1 h2
      exact o.own j t q h1 ht h2
  dist := fun j k t u q h1 h2 ht hu h3 h4 => by
    by_cases e : i = j
    · by_cases e' : i = k
      · exact e.symm.trans e'
      · subst e
        have hi : i < S.length := by have := (List.getElem?_eq_some_iff.mp h1).1; simpa using this
        have hi' : i < σ.length := by rw [o.len]; exact hi
        rw [List.getElem?_set_self hi'] at h3
        cases h3
        rw [List.getElem?_set_ne e'] at h2 h4
        exact absurd h4 (hn k u h2 hu)
    · by_cases e' : i = k
      · subst e'
        have hi : i < S.length := by have := (List.getElem?_eq_some_iff.mp h2).1; simpa using this
        have hi' : i < σ.length := by rw [o.len]; exact hi
        rw [List.getElem?_set_self hi'] at h4
        cases h4
        rw [List.getElem?_set_ne e] at h1 h3
        exact absurd h3 (hn j t h1 ht)
      · rw [List.getElem?_set_ne e] at h1 h3
        rw [List.getElem?_set_ne e'] at h2 h4
        exact o.dist j k t u q h1 h2 ht hu h3 h4
end

/-! ### judgements: a canonical reading each -/
section
variable (C : CL) (K : PySem.W.Frag) (W : WX)
def cE (m : List Sl → R D) : TE := fun σ H Q => ∃ F0 H0 F S, Ok K F0 H0 F H σ S ∧ Post C K W σ F H (m S) Q
def cR (m : List Sl → R D) : TE := fun σ H Q => ∃ F0 H0 F S, Ok K F0 H0 F H σ S ∧ PostV C K W σ F H (m S) Q
def cN (m : List Sl → R (List D)) : TE := fun σ H Q => ∃ F0 H0 F S, Ok K F0 H0 F H σ S ∧ PostN C K W σ F H (m S) Q
def cND (m : List Sl → R (List (Int × D))) : TE := fun σ H Q => ∃ F0 H0 F S, Ok K F0 H0 F H σ S ∧ PostND C K W σ F H (m S) Q
def cT (m : List Sl → R Bool) : TT := fun σ H Q => ∃ F0 H0 F S, Ok K F0 H0 F H σ S ∧ PostT C K W σ F H (m S) Q
def cA (m : List Sl → R (List D)) : TA := fun σ H Q => ∃ F0 H0 F S, Ok K F0 H0 F H σ S ∧ PostA C K W σ F H (m S) Q
def cAR (m : List Sl → R (List D)) : TA := fun σ H Q => ∃ F0 H0 F S, Ok K F0 H0 F H σ S ∧ PostAR C K W σ F H (m S) Q
end
structure DE (C : CL) (X : Cx) (W : WX) (e : Expr) (m : List Sl → R D) : Prop where
  run : PE X e (cE C X.K W m)
/-- read at once -/
structure DR (C : CL) (X : Cx) (W : WX) (e : Expr) (m : List Sl → R D) : Prop where
  run : PE X e (cR C X.K W m)
structure DN (C : CL) (X : Cx) (W : WX) (e : Expr) (m : List Sl → R (List D)) : Prop where
  run : PE X e (cN C X.K W m)
structure DND (C : CL) (X : Cx) (W : WX) (e : Expr) (m : List Sl → R (List (Int × D))) : Prop where
  run : PE X e (cND C X.K W m)
structure DT (C : CL) (X : Cx) (W : WX) (e : Expr) (m : List Sl → R Bool) : Prop where
  run : PT X e (cT C X.K W m)
structure DW (C : CL) (X : Cx) (W : WX) (e : Expr) (m : List Sl → R Bool) : Prop where
  run : PW X e (cT C X.K W m)
structure DC (C : CL) (X : Cx) (W : WX) (op : CmpOp) (a b : Expr) (m : List Sl → R D) : Prop where
  run : PC X op a b (cE C X.K W m)
/-- arguments: read at once; known to all -/
structure DA (C : CL) (X : Cx) (W : WX) (es : List Expr) (m : List Sl → R (List D)) : Prop where
  run : PA X es (cA C X.K W m)
structure DAR (C : CL) (X : Cx) (W : WX) (es : List Expr) (m : List Sl → R (List D)) : Prop where
  run : PA X es (cAR C X.K W m)
section
variable {C : CL} {X : Cx} {W : WX} {e : Expr} {op : CmpOp} {a b : Expr} {pos : Pos} {es : List Expr}
theorem DE.of {m : List Sl → R D} (h : ∃ t, PE X e t ∧ ∀ F0 H0 F H σ S, Ok X.K F0 H0 F H σ S → ∀ Q, Post C X.K W σ F H (m S) Q → t σ H Q) : DE C X W e m := by
  obtain ⟨t, p, k⟩ := h
  exact ⟨⟨fun pins s σ H Q I ⟨F0, H0, F, S, o, q⟩ => p.run pins s σ H Q I (k F0 H0 F H σ S o Q q)⟩⟩
theorem DE.ex {m : List Sl → R D} (h : DE C X W e m) : ∃ t, PE X e t ∧ ∀ F0 H0 F H σ S, Ok X.K F0 H0 F H σ S → ∀ Q, Post C X.K W σ F H (m S) Q → t σ H Q :=
  ⟨_, h.run, fun F0 H0 F H σ S o Q q => ⟨F0, H0, F, S, o, q⟩⟩
theorem DR.of {m : List Sl → R D} (h : ∃ t, PE X e t ∧ ∀ F0 H0 F H σ S, Ok X.K F0 H0 F H σ S → ∀ Q, PostV C X.K W σ F H (m S) Q → t σ H Q) : DR C X W e m := by
  obtain ⟨t, p, k⟩ := h
  exact ⟨⟨fun pins s σ H Q I ⟨F0, H0, F, S, o, q⟩ => p.run pins s σ H Q I (k F0 H0 F H σ S o Q q)⟩⟩
theorem DR.ex {m : List Sl → R D} (h : DR C X W e m) : ∃ t, PE X e t ∧ ∀ F0 H0 F H σ S, Ok X.K F0 H0 F H σ S → ∀ Q, PostV C X.K W σ F H (m S) Q → t σ H Q :=
  ⟨_, h.run, fun F0 H0 F H σ S o Q q => ⟨F0, H0, F, S, o, q⟩⟩
theorem DN.of {m : List Sl → R (List D)} (h : ∃ t, PE X e t ∧ ∀ F0 H0 F H σ S, Ok X.K F0 H0 F H σ S → ∀ Q, PostN C X.K W σ F H (m S) Q → t σ H Q) : DN C X W e m := by
  obtain ⟨t, p, k⟩ := h
  exact ⟨⟨fun pins s σ H Q I ⟨F0, H0, F, S, o, q⟩ => p.run pins s σ H Q I (k F0 H0 F H σ S o Q q)⟩⟩
theorem DN.ex {m : List Sl → R (List D)} (h : DN C X W e m) : ∃ t, PE X e t ∧ ∀ F0 H0 F H σ S, Ok X.K F0 H0 F H σ S → ∀ Q, PostN C X.K W σ F H (m S) Q → t σ H Q :=
  ⟨_, h.run, fun F0 H0 F H σ S o Q q => ⟨F0, H0, F, S, o, q⟩⟩
theorem DND.of {m : List Sl → R (List (Int × D))} (h : ∃ t, PE X e t ∧ ∀ F0 H0 F H σ S, Ok X.K F0 H0 F H σ S → ∀ Q, PostND C X.K W σ F H (m S) Q → t σ H Q) : DND C X W e m := by
  obtain ⟨t, p, k⟩ := h
  exact ⟨⟨fun pins s σ H Q I ⟨F0, H0, F, S, o, q⟩ => p.run pins s σ H Q I (k F0 H0 F H σ S o Q q)⟩⟩
theorem DND.ex {m : List Sl → R (List (Int × D))} (h : DND C X W e m) : ∃ t, PE X e t ∧ ∀ F0 H0 F H σ S, Ok X.K F0 H0 F H σ S → ∀ Q, PostND C X.K W σ F H (m S) Q → t σ H Q :=
  ⟨_, h.run, fun F0 H0 F H σ S o Q q => ⟨F0, H0, F, S, o, q⟩⟩
theorem DT.of {m : List Sl → R Bool} (h : ∃ t, PT X e t ∧ ∀ F0 H0 F H σ S, Ok X.K F0 H0 F H σ S → ∀ Q, PostT C X.K W σ F H (m S) Q → t σ H Q) : DT C X W e m := by
  obtain ⟨t, p, k⟩ := h
  exact ⟨⟨fun pins s σ H Q I ⟨F0, H0, F, S, o, q⟩ => p.run pins s σ H Q I (k F0 H0 F H σ S o Q q)⟩⟩
theorem DT.ex {m : List Sl → R Bool} (h : DT C X W e m) : ∃ t, PT X e t ∧ ∀ F0 H0 F H σ S, Ok X.K F0 H0 F H σ S → ∀ Q, PostT C X.K W σ F H (m S) Q → t σ H Q :=
  ⟨_, h.run, fun F0 H0 F H σ S o Q q => ⟨F0, H0, F, S, o, q⟩⟩
theorem DW.of {m : List Sl → R Bool} (h : ∃ t, PW X e t ∧ ∀ F0 H0 F H σ S, Ok X.K F0 H0 F H σ S → ∀ Q, PostT C X.K W σ F H (m S) Q → t σ H Q) : DW C X W e m := by
  obtain ⟨t, p, k⟩ := h
  exact ⟨⟨fun wh pins s σ H Q I ⟨F0, H0, F, S, o, q⟩ => p.run wh pins s σ H Q I (k F0 H0 F H σ S o Q q)⟩⟩
theorem DW.ex {m : List Sl → R Bool} (h : DW C X W e m) : ∃ t, PW X e t ∧ ∀ F0 H0 F H σ S, Ok X.K F0 H0 F H σ S → ∀ Q, PostT C X.K W σ F H (m S) Q → t σ H Q :=
  ⟨_, h.run, fun F0 H0 F H σ S o Q q => ⟨F0, H0, F, S, o, q⟩⟩
theorem DC.of {m : List Sl → R D} (h : ∃ t, PC X op a b t ∧ ∀ F0 H0 F H σ S, Ok X.K F0 H0 F H σ S → ∀ Q, Post C X.K W σ F H (m S) Q → t σ H Q) : DC C X W op a b m := by
  obtain ⟨t, p, k⟩ := h
  exact ⟨⟨fun pins s σ H Q I ⟨F0, H0, F, S, o, q⟩ => p.run pins s σ H Q I (k F0 H0 F H σ S o Q q)⟩⟩
theorem DC.ex {m : List Sl → R D} (h : DC C X W op a b m) : ∃ t, PC X op a b t ∧ ∀ F0 H0 F H σ S, Ok X.K F0 H0 F H σ S → ∀ Q, Post C X.K W σ F H (m S) Q → t σ H Q :=
  ⟨_, h.run, fun F0 H0 F H σ S o Q q => ⟨F0, H0, F, S, o, q⟩⟩
theorem DA.of {m : List Sl → R (List D)} (h : ∃ t, PA X es t ∧ ∀ F0 H0 F H σ S, Ok X.K F0 H0 F H σ S → ∀ Q, PostA C X.K W σ F H (m S) Q → t σ H Q) : DA C X W es m := by
  obtain ⟨t, p, k⟩ := h
  exact ⟨⟨fun pos pins s σ H Q I ⟨F0, H0, F, S, o, q⟩ => p.run pos pins s σ H Q I (k F0 H0 F H σ S o Q q)⟩⟩
theorem DA.ex {m : List Sl → R (List D)} (h : DA C X W es m) : ∃ t, PA X es t ∧ ∀ F0 H0 F H σ S, Ok X.K F0 H0 F H σ S → ∀ Q, PostA C X.K W σ F H (m S) Q → t σ H Q :=
  ⟨_, h.run, fun F0 H0 F H σ S o Q q => ⟨F0, H0, F, S, o, q⟩⟩
theorem DAR.of {m : List Sl → R (List D)} (h : ∃ t, PA X es t ∧ ∀ F0 H0 F H σ S, Ok X.K F0 H0 F H σ S → ∀ Q, PostAR C X.K W σ F H (m S) Q → t σ H Q) : DAR C X W es m := by
  obtain ⟨t, p, k⟩ := h
  exact ⟨⟨fun pos pins s σ H Q I ⟨F0, H0, F, S, o, q⟩ => p.run pos pins s σ H Q I (k F0 H0 F H σ S o Q q)⟩⟩
theorem DAR.ex {m : List Sl → R (List D)} (h : DAR C X W es m) : ∃ t, PA X es t ∧ ∀ F0 H0 F H σ S, Ok X.K F0 H0 F H σ S → ∀ Q, PostAR C X.K W σ F H (m S) Q → t σ H Q :=
  ⟨_, h.run, fun F0 H0 F H σ S o Q q => ⟨F0, H0, F, S, o, q⟩⟩
theorem DE.r {m : List Sl → R D} (h : DE C X W e m) : DR C X W e m := by
  obtain ⟨t, p, k⟩ := h.ex
  refine .of ⟨t, p, fun F0 H0 F H σ S o Q q => k F0 H0 F H σ S o Q ?_⟩
  cases hm : m S with
  | ok x => rw [hm] at q; exact fun v F' H' e r => q v F' H' e (.of r)
  | exc x => rw [hm] at q; exact q
  | bad => rw [hm] at q; exact q
theorem DN.de {m : List Sl → R (List D)} (h : DN C X W e m) : DE C X W e (fun S => (m S).bind fun ds => .ok (.lst ds)) := by
  obtain ⟨t, p, k⟩ := h.ex
  exact .of ⟨t, p, fun F0 H0 F H σ S o Q q => k F0 H0 F H σ S o Q (PostN.of_post q)⟩
theorem DND.de {m : List Sl → R (List (Int × D))} (h : DND C X W e m) : DE C X W e (fun S => (m S).bind fun ds => .ok (.dct ds)) := by
  obtain ⟨t, p, k⟩ := h.ex
  exact .of ⟨t, p, fun F0 H0 F H σ S o Q q => k F0 H0 F H σ S o Q (PostND.of_post q)⟩
end
theorem pe_or2 {X : Cx} {e : Expr} {t u : TE} (h : PE X e t) (g : PE X e u) : PE X e (fun σ H Q => t σ H Q ∨ u σ H Q) := ⟨fun pins s σ H Q I k => k.elim (h.run pins s σ H Q I) (g.run pins s σ H Q I)⟩
theorem pc_or2 {X : Cx} {op : CmpOp} {a b : Expr} {t u : TE} (h : PC X op a b t) (g : PC X op a b u) : PC X op a b (fun σ H Q => t σ H Q ∨ u σ H Q) := ⟨fun pins s σ H Q I k => k.elim (h.run pins s σ H Q I) (g.run pins s σ H Q I)⟩
theorem pi_or2 {X : Cx} {tg e : Expr} {t u : TI} (h : PI X tg e t) (g : PI X tg e u) : PI X tg e (fun σ H Q => t σ H Q ∨ u σ H Q) := ⟨fun pins s σ H Q I k => k.elim (h.run pins s σ H Q I) (g.run pins s σ H Q I)⟩
theorem pc_op {X : Cx} {op : CmpOp} {a b : Expr} {r : R2} {ta tb : TE} (ho : OpR X (compareOp op) r) (ha : PE X a ta) (hb : PE X b tb) : PC X op a b (tOp r ta tb) :=
  ⟨fun pins s σ H Q I h => bin (R := fun x y H2 => r x y H2 Q) ha hb I h fun v u s2 x y H2 I2 rx ry q => ho pins s2 σ H2 x y v u Q I2 rx ry q⟩
end DL
/-! The data layer, part B: operators by data. -/
namespace DL
open PySem L2

/-! ### views taken apart -/
section
variable {K : PySem.W.Frag} {F H : Hp} {v : V}
theorem Vw.isInt {i : Int} (h : Vw K F H v (.int i)) : v = .int i := by
  rcases h with h | ⟨p, ws, es, h1, h2, h3, h4⟩ | ⟨p, ws, es, h1, h2, h3, h4⟩
  · cases h; rfl
  · cases h2
  · cases h2
theorem Vw.isBl {i : Bool} (h : Vw K F H v (.bl i)) : v = .bl i := by
  rcases h with h | ⟨p, ws, es, h1, h2, h3, h4⟩ | ⟨p, ws, es, h1, h2, h3, h4⟩
  · cases h; rfl
  · cases h2
  · cases h2
theorem Vw.isStr {i : Str} (h : Vw K F H v (.str i)) : v = .str i := by
  rcases h with h | ⟨p, ws, es, h1, h2, h3, h4⟩ | ⟨p, ws, es, h1, h2, h3, h4⟩
  · cases h; rfl
  · cases h2
  · cases h2
theorem Vw.isNon (h : Vw K F H v .non) : v = .non := by
  rcases h with h | ⟨p, ws, es, h1, h2, h3, h4⟩ | ⟨p, ws, es, h1, h2, h3, h4⟩
  · cases h; rfl
  · cases h2
  · cases h2
theorem Vw.isLst {ds : List D} (h : Vw K F H v (.lst ds)) (e : Same F H) : ∃ a vs, v = .ref a ∧ H a = some (.lst vs) ∧ RpA K F vs ds := by
  rcases h with h | ⟨p, ws, es, h1, h2, h3, h4⟩ | ⟨p, ws, es, h1, h2, h3, h4⟩
  · cases h with
    | lst h1 h2 => exact ⟨_, _, rfl, e _ _ h1, h2⟩
  · cases h2; exact ⟨p, ws, h1, h3, h4⟩
  · cases h2
theorem Vw.isTup {ds : List D} (h : Vw K F H v (.tup ds)) : ∃ a vs, v = .ref a ∧ F a = some (.tup vs) ∧ RpA K F vs ds := by
  rcases h with h | ⟨p, ws, es, h1, h2, h3, h4⟩ | ⟨p, ws, es, h1, h2, h3, h4⟩
  · cases h with
    | tup h1 h2 => exact ⟨_, _, rfl, h1, h2⟩
  · cases h2
  · cases h2
theorem Vw.isDct {ds : List (Int × D)} (h : Vw K F H v (.dct ds)) (e : Same F H) : ∃ a vs, v = .ref a ∧ Rd H a (.dK vs) ∧ RpK K F vs ds := by
  rcases h with h | ⟨p, ws, es, h1, h2, h3, h4⟩ | ⟨p, ws, es, h1, h2, h3, h4⟩
  · cases h with
    | dct h1 h2 => exact ⟨_, _, rfl, rd_mono e h1, h2⟩
  · cases h2
  · cases h2; exact ⟨p, ws, h1, .inl h3, h4⟩
theorem Vw.isScr {ns : List Int} (h : Vw K F H v (.scr ns)) (e : Same F H) : ∃ a, v = .ref a ∧ SqL K H a (ns.map V.int) := by
  rcases h with h | ⟨p, ws, es, h1, h2, h3, h4⟩ | ⟨p, ws, es, h1, h2, h3, h4⟩
  · cases h with
    | scr h1 => exact ⟨_, rfl, e.seq h1⟩
  · cases h2
  · cases h2
end

/-! ### what is wanted of a pure step -/
def PostP (K : PySem.W.Frag) (F H : Hp) (r : R D) (Q : VK) : Prop := match r with
  | .ok x => ∀ v F' H', Ext F H F' H' → Rp K F' v x → Q v H'
  | .exc _ => True
  | .bad => False
theorem PostP.of {C : CL} {K : PySem.W.Frag} {W : WX} {σ : St} {F H : Hp} {r : R D} {Q : VK} (h : Post C K W σ F H r Q) : PostP K F H r Q := by
  cases r with
  | ok x => exact h
  | exc x => trivial
  | bad => exact h
/-- a scalar: the heap as it is -/
theorem PostP.here {K : PySem.W.Frag} {F H : Hp} {x : D} {v : V} {Q : VK} (h : PostP K F H (.ok x) Q) (e : Same F H) (r : Rp K F v x) : Q v H := h v F H (Ext.refl e) r
theorem PostP.newT {K : PySem.W.Frag} {F H : Hp} {ds : List D} {vs : List V} {Q : VK} (h : PostP K F H (.ok (.tup ds)) Q) (e : Same F H) (r : RpA K F vs ds) {p : Addr} (hp : H p = none) : Q (.ref p) (upd H p (.tup vs)) :=
  h _ _ _ (Ext.new e hp) (.tup upd_same (r.up (same_new (none_of e hp))))
theorem PostP.newL {K : PySem.W.Frag} {F H : Hp} {ds : List D} {vs : List V} {Q : VK} (h : PostP K F H (.ok (.lst ds)) Q) (e : Same F H) (r : RpA K F vs ds) {p : Addr} (hp : H p = none) : Q (.ref p) (upd H p (.lst vs)) :=
  h _ _ _ (Ext.new e hp) (.lst upd_same (r.up (same_new (none_of e hp))))
def OpD (X : Cx) (f : Value → Value → Sem Value) (g : D → D → R D) : Prop :=
  ∃ r : R2, OpR X f r ∧ ∀ F H x y vx vy Q, Same F H → Vw X.K F H vx x → Vw X.K F H vy y → PostP X.K F H (g x y) Q → r vx vy H Q
def UnD (X : Cx) (f : Value → Sem Value) (g : D → R D) : Prop :=
  ∃ r : V → Hp → VK → Prop, UnR X f r ∧ ∀ F H x vx Q, Same F H → Vw X.K F H vx x → PostP X.K F H (g x) Q → r vx H Q

/-! ### arithmetic -/
def addD : D → D → R D
  | .int i, .int j => .ok (.int (i + j))
  | .str i, .str j => if i.length + j.length ≤ sizeLine then .ok (.str (i ++ j)) else .bad
  | .lst xs, .lst ys => if xs.length + ys.length ≤ sizeLine then .ok (.lst (xs ++ ys)) else .bad
  | .tup xs, .tup ys => if xs.length + ys.length ≤ sizeLine then .ok (.tup (xs ++ ys)) else .bad
  | _, _ => .bad
def subD : D → D → R D
  | .int i, .int j => .ok (.int (i - j))
  | _, _ => .bad
def mulD : D → D → R D
  | .int i, .int j => if (-(2 ^ 64) < i ∧ i < 2 ^ 64) ∨ (-(2 ^ 64) < j ∧ j < 2 ^ 64) then .ok (.int (i * j)) else .bad
  | _, _ => .bad
def fdivD : D → D → R D
  | .int i, .int j => if 0 < j ∧ j < 1073741824 then .ok (.int (i / j)) else .bad
  | _, _ => .bad
def modD : D → D → R D
  | .int i, .int j => if 0 < j then .ok (.int (i % j)) else .bad
  | _, _ => .bad
def powD : D → D → R D
  | .int i, .int j => if 0 ≤ j ∧ j ≤ 1000000 ∧ i.natAbs < 2 ^ 64 then .ok (.int (i ^ j.toNat)) else .bad
  | _, _ => .bad
def negD : D → R D
  | .int i => .ok (.int (-i))
  | _ => .bad
/-! ### comparisons -/
mutual
def toPy : D → PyData
  | .non => .none
  | .bl b => .bool b
  | .int i => .int i
  | .str s => .str s
  | .lst xs => .list (toPyA xs)
  | .tup xs => .tuple (toPyA xs)
  | .dct _ => .dict []
  | .scr _ => .dict []
def toPyA : List D → List PyData
  | [] => []
  | d :: ds => toPy d :: toPyA ds
end
def okPy (d : D) : Bool := SeqAt.shaped (toPy d)
def eqvD (x y : D) : Bool := PyData.eqv (toPy x) (toPy y)
def eqD : D → D → R D
  | .int i, .int j => .ok (.bl (decide (i = j)))
  | .str i, .str j => .ok (.bl (decide (i = j)))
  | .int _, .str _ => .ok (.bl false)
  | x, y => if (okPy x && okPy y) = true then .ok (.bl (eqvD x y)) else .bad
def notD : D → R D
  | .bl b => .ok (.bl (!b))
  | _ => .bad
def neD (x y : D) : R D := (eqD x y).bind notD
def ltD : D → D → R D
  | .int i, .int j => .ok (.bl (decide (i < j)))
  | _, _ => .bad
def leD : D → D → R D
  | .int i, .int j => .ok (.bl (decide (i ≤ j)))
  | .str i, .str j => .ok (.bl (!decide (j.cps.toList < i.cps.toList)))
  | _, _ => .bad
def gtD : D → D → R D
  | .int i, .int j => .ok (.bl (decide (j < i)))
  | _, _ => .bad
def geD : D → D → R D
  | .int i, .int j => .ok (.bl (decide (j ≤ i)))
  | _, _ => .bad
def flatD : D → Bool
  | .non => true
  | .bl _ => true
  | .int _ => true
  | .str _ => true
  | _ => false
def eqF : D → D → Bool
  | .non, .non => true
  | .bl a, .bl b => a == b
  | .bl a, .int b => (if a then 1 else 0) == b
  | .int a, .bl b => a == (if b then 1 else 0)
  | .int a, .int b => a == b
  | .str a, .str b => a == b
  | _, _ => false
def isNonD : D → Bool
  | .non => true
  | _ => false
def isD : D → D → R D
  | x, .non => .ok (.bl (isNonD x))
  | .bl a, .bl b => .ok (.bl (decide (a = b)))
  | _, _ => .bad
def isNotD (x y : D) : R D := (isD x y).bind notD

section
variable {X : Cx}
theorem opd_add : OpD X (binaryOp .Add) addD := by
  refine ⟨_, (op_add.or (op_add_str.or (op_cat.or op_catA))), fun F H x y vx vy Q e hx hy h => ?_⟩
  cases x <;> cases y <;> first | exact h.elim | skip
  · cases hx.isInt; cases hy.isInt
    exact .inl ⟨_, _, rfl, rfl, h.here e (.int _)⟩
  · cases hx.isStr; cases hy.isStr
    rename_i i j
    by_cases c : i.length + j.length ≤ sizeLine
    · rw [addD, if_pos c] at h
      exact .inr (.inl ⟨_, _, rfl, rfl, c, h.here e (.str _)⟩)
    · rw [addD, if_neg c] at h; exact h.elim
  · rename_i xs ys
    by_cases c : xs.length + ys.length ≤ sizeLine
    · rw [addD, if_pos c] at h
      obtain ⟨a, vs, rfl, ha, ra⟩ := hx.isLst e
      obtain ⟨b, ws, rfl, hb, rb⟩ := hy.isLst e
      refine .inr (.inr (.inl ⟨a, b, vs, ws, rfl, rfl, ha, hb, by rw [ra.len, rb.len]; exact c, fun p hp => ?_⟩))
      exact h.newL e (ra.app rb) hp
    · rw [addD, if_neg c] at h; exact h.elim
  · rename_i xs ys
    by_cases c : xs.length + ys.length ≤ sizeLine
    · rw [addD, if_pos c] at h
      obtain ⟨a, vs, rfl, ha, ra⟩ := hx.isTup
      obtain ⟨b, ws, rfl, hb, rb⟩ := hy.isTup
      refine .inr (.inr (.inr ⟨a, b, vs, ws, rfl, rfl, SqT.of (e _ _ ha), SqT.of (e _ _ hb), by rw [ra.len, rb.len]; exact c, fun z => ?_, fun z1 z2 => ?_, fun _ _ p hp => ?_⟩))
      · subst z
        cases xs with
        | nil => exact h.here e (.tup hb rb)
        | cons _ _ => have := ra.len; simp at this
      · subst z2
        cases ys with
        | nil => exact h.here e (.tup ha (by rw [List.append_nil]; exact ra))
        | cons _ _ => have := rb.len; simp at this
      · exact h.newT e (ra.app rb) hp
    · rw [addD, if_neg c] at h; exact h.elim
theorem opd_sub : OpD X (binaryOp .Sub) subD := by
  refine ⟨_, op_sub, fun F H x y vx vy Q e hx hy h => ?_⟩
  cases x <;> cases y <;> first | exact h.elim | skip
  cases hx.isInt; cases hy.isInt
  exact ⟨_, _, rfl, rfl, h.here e (.int _)⟩
theorem opd_mul : OpD X (binaryOp .Mult) mulD := by
  refine ⟨_, op_mul, fun F H x y vx vy Q e hx hy h => ?_⟩
  cases x <;> cases y <;> first | exact h.elim | skip
  cases hx.isInt; cases hy.isInt
  rename_i i j
  by_cases c : (-(2 ^ 64) < i ∧ i < 2 ^ 64) ∨ (-(2 ^ 64) < j ∧ j < 2 ^ 64)
  · rw [mulD, if_pos c] at h
    exact ⟨_, _, rfl, rfl, c, h.here e (.int _)⟩
  · rw [mulD, if_neg c] at h; exact h.elim
theorem opd_fdiv : OpD X (binaryOp .FloorDiv) fdivD := by
  refine ⟨_, op_fdiv, fun F H x y vx vy Q e hx hy h => ?_⟩
  cases x <;> cases y <;> first | exact h.elim | skip
  cases hx.isInt; cases hy.isInt
  rename_i i j
  by_cases c : 0 < j ∧ j < 1073741824
  · rw [fdivD, if_pos c] at h
    exact ⟨_, _, rfl, rfl, c, h.here e (.int _)⟩
  · rw [fdivD, if_neg c] at h; exact h.elim
theorem opd_mod : OpD X (binaryOp .Mod) modD := by
  refine ⟨_, op_mod, fun F H x y vx vy Q e hx hy h => ?_⟩
  cases x <;> cases y <;> first | exact h.elim | skip
  cases hx.isInt; cases hy.isInt
  rename_i i j
  by_cases c : 0 < j
  · rw [modD, if_pos c] at h
    exact ⟨_, _, rfl, rfl, c, h.here e (.int _)⟩
  · rw [modD, if_neg c] at h; exact h.elim
theorem opd_pow : OpD X (binaryOp .Pow) powD := by
  refine ⟨_, op_pow, fun F H x y vx vy Q e hx hy h => ?_⟩
  cases x <;> cases y <;> first | exact h.elim | skip
  cases hx.isInt; cases hy.isInt
  rename_i i j
  by_cases c : 0 ≤ j ∧ j ≤ 1000000 ∧ i.natAbs < 2 ^ 64
  · rw [powD, if_pos c] at h
    exact ⟨_, _, rfl, rfl, c, h.here e (.int _)⟩
  · rw [powD, if_neg c] at h; exact h.elim
theorem und_neg : UnD X (unaryOp .USub) negD := by
  refine ⟨_, un_neg, fun F H x vx Q e hx h => ?_⟩
  cases x <;> first | exact h.elim | skip
  cases hx.isInt
  exact ⟨_, rfl, h.here e (.int _)⟩

/-! == -/
mutual
theorem Rp.dp {K : PySem.W.Frag} {F : Hp} : ∀ (d : D) (v : V), Rp K F v d → (toPy d).canLay0 = true → Dp K F v (toPy d)
  | .non, _, h, _ => by cases h; unfold toPy; exact .non
  | .bl b, _, h, _ => by cases h; unfold toPy; exact .bl b
  | .int i, _, h, _ => by cases h; unfold toPy; exact .int i
  | .str i, _, h, _ => by cases h; unfold toPy; exact .str i
  | .lst ds, _, h, c => by
    cases h with
    | lst h1 h2 =>
      unfold toPy at c ⊢
      exact .lst (SqL.of h1) (RpA.dp ds _ h2 (by simpa [PyData.canLay0] using c))
  | .tup ds, _, h, c => by
    cases h with
    | tup h1 h2 =>
      unfold toPy at c ⊢
      exact .tup (SqT.of h1) (RpA.dp ds _ h2 (by simpa [PyData.canLay0] using c))
  | .dct _, _, _, c => by unfold toPy at c; simp [PyData.canLay0] at c
  | .scr _, _, _, c => by unfold toPy at c; simp [PyData.canLay0] at c
theorem RpA.dp {K : PySem.W.Frag} {F : Hp} : ∀ (ds : List D) (vs : List V), RpA K F vs ds → PyData.canLayAll0 (toPyA ds) = true → DpAll K F vs (toPyA ds)
  | [], _, h, _ => by cases h; unfold toPyA; exact .nil
  | d :: ds, _, h, c => by
    cases h with
    | cons h1 h2 =>
      unfold toPyA at c ⊢
      have c' : (toPy d).canLay0 = true ∧ PyData.canLayAll0 (toPyA ds) = true := by simpa [PyData.canLayAll0] using c
      exact .cons (Rp.dp d _ h1 c'.1) (RpA.dp ds _ h2 c'.2)
end
theorem lay_of {d : D} (h : okPy d = true) : (toPy d).canLay0 = true := SeqAt.canLay_of_shaped h
/-- the last arm of == -/
theorem eqD_deep {F H : Hp} {x y : D} {vx vy : V} {Q : VK} (e : Same F H) (hx : Vw X.K F H vx x) (hy : Vw X.K F H vy y)
    (h : PostP X.K F H (if (okPy x && okPy y) = true then .ok (.bl (eqvD x y)) else .bad) Q) : rEqD X.K vx vy H Q := by
  by_cases c : (okPy x && okPy y) = true
  · rw [if_pos c] at h
    have c' := Bool.and_eq_true_iff.mp c
    exact ⟨_, _, Rp.dp x _ (hx.rp e) (lay_of c'.1), Rp.dp y _ (hy.rp e) (lay_of c'.2), c'.1, c'.2, h.here e (.bl _)⟩
  · rw [if_neg c] at h; exact h.elim
theorem opd_eq (hu : X.A.units + 64 < cLine) : OpD X (compareOp .Eq) eqD := by
  refine ⟨_, op_eq.or (op_eqD hu), fun F H x y vx vy Q e hx hy h => ?_⟩
  cases x <;> cases y <;> first
    | (cases hx.isInt; cases hy.isInt; exact .inl ⟨rfl, by
        rename_i i j
        have q : decide (V.int i = V.int j) = decide (i = j) := by by_cases c : i = j <;> simp [c]
        rw [q]
        exact h.here e (.bl _)⟩)
    | (cases hx.isStr; cases hy.isStr; exact .inl ⟨rfl, by
        rename_i i j
        have q : decide (V.str i = V.str j) = decide (i = j) := by by_cases c : i = j <;> simp [c]
        rw [q]
        exact h.here e (.bl _)⟩)
    | (cases hx.isInt; cases hy.isStr; exact .inl ⟨rfl, by
        rename_i i j
        have q : decide (V.int i = V.str j) = false := by simp
        rw [q]
        exact h.here e (.bl _)⟩)
    | exact .inr (eqD_deep e hx hy h)
theorem neD_deep {F H : Hp} {x y : D} {vx vy : V} {Q : VK} (e : Same F H) (hx : Vw X.K F H vx x) (hy : Vw X.K F H vy y)
    (h : PostP X.K F H ((if (okPy x && okPy y) = true then R.ok (D.bl (eqvD x y)) else .bad).bind notD) Q) : rNeD X.K vx vy H Q := by
  by_cases c : (okPy x && okPy y) = true
  · rw [if_pos c] at h
    have c' := Bool.and_eq_true_iff.mp c
    exact ⟨_, _, Rp.dp x _ (hx.rp e) (lay_of c'.1), Rp.dp y _ (hy.rp e) (lay_of c'.2), c'.1, c'.2, PostP.here (x := .bl (!eqvD x y)) h e (.bl _)⟩
  · rw [if_neg c] at h; exact h.elim
theorem opd_ne (hu : X.A.units + 64 < cLine) : OpD X (compareOp .NotEq) neD := by
  refine ⟨_, op_ne.or (op_neD hu), fun F H x y vx vy Q e hx hy h => ?_⟩
  cases x <;> cases y <;> first
    | (cases hx.isInt; cases hy.isInt; exact .inl ⟨rfl, by
        rename_i i j
        have q : (!decide (V.int i = V.int j)) = !decide (i = j) := by by_cases c : i = j <;> simp [c]
        rw [q]
        exact PostP.here (x := .bl (!decide (i = j))) h e (.bl _)⟩)
    | (cases hx.isStr; cases hy.isStr; exact .inl ⟨rfl, by
        rename_i i j
        have q : (!decide (V.str i = V.str j)) = !decide (i = j) := by by_cases c : i = j <;> simp [c]
        rw [q]
        exact PostP.here (x := .bl (!decide (i = j))) h e (.bl _)⟩)
    | (cases hx.isInt; cases hy.isStr; exact .inl ⟨rfl, by
        rename_i i j
        have q : (!decide (V.int i = V.str j)) = true := by simp
        rw [q]
        exact PostP.here (x := .bl true) h e (.bl _)⟩)
    | exact .inr (neD_deep e hx hy h)
theorem opd_lt : OpD X (compareOp .Lt) ltD := by
  refine ⟨_, op_lt, fun F H x y vx vy Q e hx hy h => ?_⟩
  cases x <;> cases y <;> first | exact h.elim | skip
  cases hx.isInt; cases hy.isInt
  exact ⟨_, _, rfl, rfl, h.here e (.bl _)⟩
theorem opd_le : OpD X (compareOp .LtE) leD := by
  refine ⟨_, op_le.or op_le_str, fun F H x y vx vy Q e hx hy h => ?_⟩
  cases x <;> cases y <;> first | exact h.elim | skip
  · cases hx.isInt; cases hy.isInt
    exact .inl ⟨_, _, rfl, rfl, h.here e (.bl _)⟩
  · cases hx.isStr; cases hy.isStr
    exact .inr ⟨_, _, rfl, rfl, h.here e (.bl _)⟩
theorem opd_gt : OpD X (compareOp .Gt) gtD := by
  refine ⟨_, op_gt, fun F H x y vx vy Q e hx hy h => ?_⟩
  cases x <;> cases y <;> first | exact h.elim | skip
  cases hx.isInt; cases hy.isInt
  exact ⟨_, _, rfl, rfl, h.here e (.bl _)⟩
theorem opd_ge : OpD X (compareOp .GtE) geD := by
  refine ⟨_, op_ge, fun F H x y vx vy Q e hx hy h => ?_⟩
  cases x <;> cases y <;> first | exact h.elim | skip
  cases hx.isInt; cases hy.isInt
  exact ⟨_, _, rfl, rfl, h.here e (.bl _)⟩
theorem isNon_of {K : PySem.W.Frag} {F H : Hp} {v : V} {x : D} (e : Same F H) (h : Vw K F H v x) : decide (v = .non) = isNonD x := by
  cases x with
  | non => cases h.isNon; rfl
  | bl b => cases h.isBl; rfl
  | int b => cases h.isInt; rfl
  | str b => cases h.isStr; rfl
  | lst b => obtain ⟨_, _, q, _⟩ := h.isLst e; subst q; rfl
  | tup b => obtain ⟨_, _, q, _⟩ := h.isTup; subst q; rfl
  | dct b => obtain ⟨_, _, q, _⟩ := h.isDct e; subst q; rfl
  | scr b => obtain ⟨_, q, _⟩ := h.isScr e; subst q; rfl
theorem isD_non (x : D) : isD x .non = .ok (.bl (isNonD x)) := by cases x <;> rfl
theorem opd_is : OpD X (compareOp .Is) isD := by
  refine ⟨_, op_isN.or op_is_bl, fun F H x y vx vy Q e hx hy h => ?_⟩
  cases y with
  | non =>
    cases hy.isNon
    rw [isD_non] at h
    refine .inl ⟨rfl, ?_⟩
    rw [isNon_of e hx]
    exact h.here e (.bl _)
  | bl b =>
    cases x <;> first | exact h.elim | skip
    cases hx.isBl; cases hy.isBl
    exact .inr ⟨_, _, rfl, rfl, h.here e (.bl _)⟩
  | _ => cases x <;> exact h.elim
theorem opd_isNot : OpD X (compareOp .IsNot) isNotD := by
  refine ⟨_, op_notN.or op_isnot_bl, fun F H x y vx vy Q e hx hy h => ?_⟩
  cases y with
  | non =>
    cases hy.isNon
    unfold isNotD at h
    rw [isD_non] at h
    refine .inl ⟨rfl, ?_⟩
    rw [isNon_of e hx]
    exact PostP.here h e (.bl _)
  | bl b =>
    cases x <;> first | exact h.elim | skip
    cases hx.isBl; cases hy.isBl
    exact .inr ⟨_, _, rfl, rfl, PostP.here h e (.bl _)⟩
  | _ => cases x <;> exact h.elim
end

/-! ### in -/
section
variable {K : PySem.W.Frag} {F H : Hp}
theorem flat_of {v : V} {d : D} (h : Rp K F v d) : flatV v = flatD d := by cases h <;> rfl
theorem flatA_of : ∀ {vs : List V} {ds : List D}, RpA K F vs ds → vs.all flatV = ds.all flatD
  | _, [], h => by cases h; rfl
  | _, d :: ds, h => by
    cases h with
    | cons h1 h2 => rw [List.all_cons, List.all_cons, flat_of h1, flatA_of h2]
theorem eqF_of {v w : V} {d e : D} (h : Rp K F v d) (g : Rp K F w e) : eqV v w = eqF d e := by
  cases h <;> cases g <;> rfl
theorem inF_of {w : V} {e : D} (g : Rp K F w e) : ∀ {vs : List V} {ds : List D}, RpA K F vs ds → inV w vs = ds.any fun y => eqF y e
  | _, [], h => by cases h; rfl
  | _, d :: ds, h => by
    cases h with
    | cons h1 h2 =>
      have q := inF_of g h2
      unfold inV at q ⊢
      rw [List.any_cons, List.any_cons, eqF_of h1 g, q]
end
/-- x in a list or tuple, of flat things or deep (lists alone) -/
def inSeq (x : D) (ds : List D) (l : Bool) : R D :=
  if (flatD x && ds.all flatD) = true then .ok (.bl (ds.any fun y => eqF y x))
  else if (l && (okPy x && okPy (.lst ds))) = true then .ok (.bl ((toPyA ds).any fun z => PyData.eqv z (toPy x))) else .bad
def keyD (es : List (Int × D)) (k : Int) : Option D := (es.find? fun e => decide (e.1 = k)).map (·.2)
def inD (x : D) : D → R D
  | .lst ds => inSeq x ds true
  | .tup ds => inSeq x ds false
  | .str z => match x with
    | .str c => (match c.cps.toList with | [k] => .ok (.bl (decide (k ∈ z.cps.toList))) | _ => .bad)
    | _ => .bad
  | .dct es => match x with
    | .int i => .ok (.bl (keyD es i).isSome)
    | _ => .bad
  | _ => .bad
def notInD (x y : D) : R D := (inD x y).bind notD
section
variable {X : Cx}
theorem str_one {c : Str} {k : Nat} (h : c.cps.toList = [k]) : c = ⟨#[k]⟩ := by
  obtain ⟨⟨l⟩⟩ := c
  have h' : l = [k] := h
  rw [h']
theorem valV_keyD {K : PySem.W.Frag} {F : Hp} (k : Int) : ∀ {kvs : List (Key × V)} {es : List (Int × D)}, RpK K F kvs es → (valV kvs (Sum.inl k) = none ∧ keyD es k = none) ∨ ∃ v d, valV kvs (Sum.inl k) = some v ∧ keyD es k = some d ∧ Rp K F v d
  | _, [], h => by cases h; exact .inl ⟨rfl, rfl⟩
  | _, (j, d) :: es, h => by
    cases h with
    | cons h1 h2 =>
      by_cases c : j = k
      · subst c
        exact .inr ⟨_, d, valV_pos rfl, by simp [keyD], h1⟩
      · have q := valV_keyD k h2
        rw [valV_neg (fun z => c (Sum.inl.inj z))]
        have e : keyD ((j, d) :: es) k = keyD es k := by simp [keyD, c]
        rw [e]
        exact q
/-- one sign in a text -/
def rSgn : R2 := fun x y H Q => ∃ (c : Nat) (z : Str), x = .str ⟨#[c]⟩ ∧ y = .str z ∧ Q (.bl (decide (c ∈ z.cps.toList))) H
def rSgnN : R2 := fun x y H Q => ∃ (c : Nat) (z : Str), x = .str ⟨#[c]⟩ ∧ y = .str z ∧ Q (.bl (!decide (c ∈ z.cps.toList))) H
theorem op_sgn : OpR X (compareOp .In) rSgn := op_in_sign
theorem op_sgnN : OpR X (compareOp .NotIn) rSgnN := op_notIn_sign
/-- the ways of in, by values -/
def rInAll (X : Cx) (neg : Bool) : R2 := fun x y H Q => (if neg then rSgnN x y H Q else rSgn x y H Q) ∨ rIn X.K neg x y H Q ∨ (if neg then rNotInD X.K x y H Q else rInD X.K x y H Q)
theorem inSeq_post {F H : Hp} {x : D} {ds : List D} {l neg : Bool} {vx : V} {a : Addr} {vs : List V} {Q : VK} (e : Same F H) (hx : Vw X.K F H vx x) (hs : if l = true then H a = some (.lst vs) else F a = some (.tup vs)) (ra : RpA X.K F vs ds)
    (h : PostP X.K F H ((inSeq x ds l).bind fun d => if neg then notD d else .ok d) Q) : rIn X.K neg vx (.ref a) H Q ∨ (if neg then rNotInD X.K vx (.ref a) H Q else rInD X.K vx (.ref a) H Q) := by
  unfold inSeq at h
  by_cases c : (flatD x && ds.all flatD) = true
  · rw [if_pos c] at h
    have c' := Bool.and_eq_true_iff.mp c
    have rx : Rp X.K H vx x := hx.rp e
    have ra' : RpA X.K H vs ds := ra.up e
    refine .inl ⟨a, vs, rfl, ?_, (flat_of rx).trans c'.1, (flatA_of ra').trans c'.2, ?_⟩
    · cases l with
      | true => exact .inl (SqL.of hs)
      | false => exact .inr (SqT.of (e _ _ hs))
    · rw [inF_of rx ra']
      cases neg with
      | true => exact PostP.here (x := .bl (!ds.any fun y => eqF y x)) h e (.bl _)
      | false => exact PostP.here (x := .bl (ds.any fun y => eqF y x)) h e (.bl _)
  · rw [if_neg c] at h
    by_cases c2 : (l && (okPy x && okPy (.lst ds))) = true
    · rw [if_pos c2] at h
      simp only [Bool.and_eq_true] at c2
      obtain ⟨hl, o1, o2⟩ := c2
      subst hl
      have rx : Rp X.K H vx x := hx.rp e
      have rl : Rp X.K H (.ref a) (.lst ds) := .lst hs (ra.up e)
      have d1 := Rp.dp x _ rx (lay_of o1)
      have d2 := Rp.dp (.lst ds) _ rl (lay_of o2)
      have e2 : toPy (.lst ds) = .list (toPyA ds) := by rw [toPy]
      unfold okPy at o2
      rw [e2] at d2 o2
      cases neg with
      | true => exact .inr ⟨_, _, d1, d2, o1, o2, PostP.here (x := .bl (!(toPyA ds).any fun z => PyData.eqv z (toPy x))) h e (.bl _)⟩
      | false => exact .inr ⟨_, _, d1, d2, o1, o2, PostP.here (x := .bl ((toPyA ds).any fun z => PyData.eqv z (toPy x))) h e (.bl _)⟩
    · rw [if_neg c2] at h; exact h.elim
theorem in_post {F H : Hp} {x y : D} {neg : Bool} {vx vy : V} {Q : VK} (e : Same F H) (hx : Vw X.K F H vx x) (hy : Vw X.K F H vy y) (hd : ∀ es, y ≠ .dct es) (h : PostP X.K F H ((inD x y).bind fun d => if neg then notD d else .ok d) Q) : rInAll X neg vx vy H Q := by
  cases y with
  | lst ds =>
    obtain ⟨a, vs, rfl, ha, ra⟩ := hy.isLst e
    exact .inr (inSeq_post (l := true) e hx ha ra h)
  | tup ds =>
    obtain ⟨a, vs, rfl, ha, ra⟩ := hy.isTup
    exact .inr (inSeq_post (l := false) e hx ha ra h)
  | str z =>
    cases hy.isStr
    cases x with
    | str c =>
      cases hx.isStr
      unfold inD at h
      simp only at h
      split at h
      · rename_i k hk
        have q := str_one hk
        subst q
        refine .inl ?_
        cases neg with
        | true => exact ⟨k, z, rfl, rfl, PostP.here (x := .bl (!decide (k ∈ z.cps.toList))) h e (.bl _)⟩
        | false => exact ⟨k, z, rfl, rfl, PostP.here (x := .bl (decide (k ∈ z.cps.toList))) h e (.bl _)⟩
      · exact h.elim
    | _ => exact h.elim
  | dct es => exact absurd rfl (hd es)
  | _ => exact h.elim
end
end DL
/-! The data layer, part C: expressions. -/
namespace DL
open PySem L2

/-- goals that go along with the heap -/
structure GO (C : CL) (K : PySem.W.Frag) (W : WX) (σ : St) {α : Type} (G : Hp → Hp → R α → Prop) : Prop where
  up : ∀ F H F1 H1 x, Ext F H F1 H1 → G F H x → G F1 H1 x
  ge : ∀ F H e, G F H (.exc e) → Wish C W σ F H e
  gb : ∀ F H, ¬ G F H .bad
section
variable {C : CL} {K : PySem.W.Frag} {W : WX} {σ : St} {F H : Hp} {α : Type} {G : Hp → Hp → R α → Prop}
theorem gE (Q : VK) : GO C K W σ (fun F H r => Post C K W σ F H r Q) := ⟨fun _ _ _ _ _ e h => h.up e, fun _ _ _ h => h, fun _ _ h => h⟩
theorem gV (Q : VK) : GO C K W σ (fun F H r => PostV C K W σ F H r Q) := ⟨fun _ _ _ _ _ e h => h.up e, fun _ _ _ h => h, fun _ _ h => h⟩
theorem gN (Q : VK) : GO C K W σ (fun F H r => PostN C K W σ F H r Q) := ⟨fun _ _ _ _ _ e h => h.up e, fun _ _ _ h => h, fun _ _ h => h⟩
theorem gND (Q : VK) : GO C K W σ (fun F H r => PostND C K W σ F H r Q) := ⟨fun _ _ _ _ _ e h => h.up e, fun _ _ _ h => h, fun _ _ h => h⟩
theorem gT (Q : Bool → Hp → Prop) : GO C K W σ (fun F H r => PostT C K W σ F H r Q) := ⟨fun _ _ _ _ _ e h => h.up e, fun _ _ _ h => h, fun _ _ h => h⟩
theorem gA (Q : List V → Hp → Prop) : GO C K W σ (fun F H r => PostA C K W σ F H r Q) := ⟨fun _ _ _ _ _ e h => h.up e, fun _ _ _ h => h, fun _ _ h => h⟩
theorem gAR (Q : List V → Hp → Prop) : GO C K W σ (fun F H r => PostAR C K W σ F H r Q) := ⟨fun _ _ _ _ _ e h => h.up e, fun _ _ _ h => h, fun _ _ h => h⟩
theorem Post.to {r : R D} {f : D → R α} {Q : VK} (g : GO C K W σ G) (h : G F H (r.bind f)) (k : ∀ x v F1 H1, Ext F H F1 H1 → Rp K F1 v x → G F1 H1 (f x) → Q v H1) : Post C K W σ F H r Q :=
  Post.bind h (fun _ _ x e q => g.up _ _ _ _ x e q) (fun e q => g.ge _ _ e q) (fun q => g.gb _ _ q) k
theorem PostV.to {r : R D} {f : D → R α} {Q : VK} (g : GO C K W σ G) (h : G F H (r.bind f)) (k : ∀ x v F1 H1, Ext F H F1 H1 → Vw K F1 H1 v x → G F1 H1 (f x) → Q v H1) : PostV C K W σ F H r Q :=
  PostV.bind h (fun _ _ x e q => g.up _ _ _ _ x e q) (fun e q => g.ge _ _ e q) (fun q => g.gb _ _ q) k
theorem PostA.to {r : R (List D)} {f : List D → R α} {Q : List V → Hp → Prop} (g : GO C K W σ G) (h : G F H (r.bind f)) (k : ∀ x v F1 H1, Ext F H F1 H1 → VwA K F1 H1 v x → G F1 H1 (f x) → Q v H1) : PostA C K W σ F H r Q :=
  PostA.bind h (fun _ _ x e q => g.up _ _ _ _ x e q) (fun e q => g.ge _ _ e q) (fun q => g.gb _ _ q) k
theorem PostAR.to {r : R (List D)} {f : List D → R α} {Q : List V → Hp → Prop} (g : GO C K W σ G) (h : G F H (r.bind f)) (k : ∀ x v F1 H1, Ext F H F1 H1 → RpA K F1 v x → G F1 H1 (f x) → Q v H1) : PostAR C K W σ F H r Q :=
  PostAR.bind h (fun _ _ x e q => g.up _ _ _ _ x e q) (fun e q => g.ge _ _ e q) (fun q => g.gb _ _ q) k
theorem PostT.to {r : R Bool} {f : Bool → R α} {Q : Bool → Hp → Prop} (g : GO C K W σ G) (h : G F H (r.bind f)) (k : ∀ x F1 H1, Ext F H F1 H1 → G F1 H1 (f x) → Q x H1) : PostT C K W σ F H r Q :=
  PostT.bind h (fun _ _ x e q => g.up _ _ _ _ x e q) (fun e q => g.ge _ _ e q) (fun q => g.gb _ _ q) k
/-- .. with what has come -/
theorem PostV.toq {r : R D} {f : D → R α} {Q : VK} (g : GO C K W σ G) (h : G F H (r.bind f)) (k : ∀ x v F1 H1, r = .ok x → Ext F H F1 H1 → Vw K F1 H1 v x → G F1 H1 (f x) → Q v H1) : PostV C K W σ F H r Q := by
  cases r with
  | ok x => exact fun v F1 H1 e r => k x v F1 H1 rfl e r (g.up _ _ _ _ _ e h)
  | exc e => exact g.ge _ _ e h
  | bad => exact (g.gb _ _ h).elim
theorem Post.toq {r : R D} {f : D → R α} {Q : VK} (g : GO C K W σ G) (h : G F H (r.bind f)) (k : ∀ x v F1 H1, r = .ok x → Ext F H F1 H1 → Rp K F1 v x → G F1 H1 (f x) → Q v H1) : Post C K W σ F H r Q := by
  cases r with
  | ok x => exact fun v F1 H1 e r => k x v F1 H1 rfl e r (g.up _ _ _ _ _ e h)
  | exc e => exact g.ge _ _ e h
  | bad => exact (g.gb _ _ h).elim
/-- a value that is there -/
theorem Post.here {x : D} {v : V} {Q : VK} (h : Post C K W σ F H (.ok x) Q) (e : Same F H) (r : Rp K F v x) : Q v H := h v F H (Ext.refl e) r
end

/-! ### names, constants -/
def getV (i : Nat) (S : List Sl) : R D := match S[i]? with
  | some (.fz d) => .ok d
  | some (.ol ds) => .ok (.lst ds)
  | some (.od es) => .ok (.dct es)
  | _ => .bad
def getF (i : Nat) (S : List Sl) : R D := match S[i]? with
  | some (.fz d) => .ok d
  | _ => .bad
def cst (d : D) (_ : List Sl) : R D := .ok d
section
variable {C : CL} {X : Cx} {W : WX} {e a b : Expr} {pos : Pos} {op : Operator} {es : List Expr}
theorem dr_var {i : Nat} (h : PE X e (tVar i)) : DR C X W e (getV i) := by
  refine .of ⟨_, h, fun F0 H0 F H σ S o Q q => ?_⟩
  unfold getV at q
  split at q
  · rename_i d hd
    obtain ⟨v, h1, u, h2, h3⟩ := o.at hd
    subst h2
    exact ⟨u, h1, q u F H (Ext.refl o.sub) (.of h3)⟩
  · rename_i d hd
    obtain ⟨v, h1, p, vs, h2, h3, h4, h5⟩ := o.at hd
    subst h2
    exact ⟨_, h1, q _ F H (Ext.refl o.sub) (.inr (.inl ⟨p, vs, d, rfl, rfl, h4, h5⟩))⟩
  · rename_i d hd
    obtain ⟨v, h1, p, vs, h2, h3, h4, h5⟩ := o.at hd
    subst h2
    exact ⟨_, h1, q _ F H (Ext.refl o.sub) (.inr (.inr ⟨p, vs, d, rfl, rfl, h4, h5⟩))⟩
  · exact q.elim
theorem de_var {i : Nat} (h : PE X e (tVar i)) : DE C X W e (getF i) := by
  refine .of ⟨_, h, fun F0 H0 F H σ S o Q q => ?_⟩
  unfold getF at q
  split at q
  · rename_i d hd
    obtain ⟨v, h1, u, h2, h3⟩ := o.at hd
    subst h2
    exact ⟨u, h1, q u F H (Ext.refl o.sub) h3⟩
  · exact q.elim
theorem de_tC {v : V} {d : D} (h : PE X e (tC v)) (r : ∀ F, Rp X.K F v d) : DE C X W e (cst d) :=
  .of ⟨_, h, fun F0 H0 F H σ S o Q q => Post.here q o.sub (r F)⟩
theorem de_int {i : Int} {j} : DE C X W (.Constant (.int i) j pos) (cst (.int i)) := de_tC pe_int fun _ => .int i
theorem de_bl {i : Bool} {j} : DE C X W (.Constant (.bool i) j pos) (cst (.bl i)) := de_tC pe_bl fun _ => .bl i
theorem de_str {i : Str} {j} : DE C X W (.Constant (.str i) j pos) (cst (.str i)) := de_tC pe_str fun _ => .str i
theorem de_non {j} : DE C X W (.Constant .none j pos) (cst .non) := de_tC pe_non fun _ => .non

/-! ### operators -/
def m2 (g : D → D → R D) (ma mb : List Sl → R D) (S : List Sl) : R D := (ma S).bind fun x => (mb S).bind fun y => g x y
def m1 (g : D → R D) (ma : List Sl → R D) (S : List Sl) : R D := (ma S).bind g
theorem de_bin {g : D → D → R D} {ma mb : List Sl → R D} (o : OpD X (binaryOp op) g) (ha : DR C X W a ma) (hb : DR C X W b mb) : DE C X W (.BinOp a op b pos) (m2 g ma mb) := by
  obtain ⟨r, hr, k⟩ := o
  obtain ⟨ta, pa, ka⟩ := ha.ex
  obtain ⟨tb, pb, kb⟩ := hb.ex
  refine .of ⟨_, pe_op hr pa pb, fun F0 H0 F H σ S o Q q => ?_⟩
  refine ka _ _ _ _ _ _ o _ (PostV.to (gE Q) q fun x v F1 H1 e1 w1 q1 => ?_)
  refine kb _ _ _ _ _ _ (o.up e1) _ (PostV.to (gE Q) q1 fun y u F2 H2 e2 w2 q2 => ?_)
  exact k F2 H2 x y v u Q e2.fh (w1.up e2) w2 (PostP.of q2)
theorem de_un {op : UnaryOp} {g : D → R D} {ma : List Sl → R D} (o : UnD X (unaryOp op) g) (ha : DR C X W a ma) : DE C X W (.UnaryOp op a pos) (m1 g ma) := by
  obtain ⟨r, hr, k⟩ := o
  obtain ⟨ta, pa, ka⟩ := ha.ex
  refine .of ⟨_, pe_un hr pa, fun F0 H0 F H σ S o Q q => ?_⟩
  refine ka _ _ _ _ _ _ o _ (PostV.to (gE Q) q fun x v F1 H1 e1 w1 q1 => ?_)
  exact k F1 H1 x v Q e1.fh w1 (PostP.of q1)

/-! ### comparisons -/
theorem dc_op {op : CmpOp} {g : D → D → R D} {ma mb : List Sl → R D} (o : OpD X (compareOp op) g) (ha : DR C X W a ma) (hb : DR C X W b mb) : DC C X W op a b (m2 g ma mb) := by
  obtain ⟨r, hr, k⟩ := o
  obtain ⟨ta, pa, ka⟩ := ha.ex
  obtain ⟨tb, pb, kb⟩ := hb.ex
  refine .of ⟨_, pc_op hr pa pb, fun F0 H0 F H σ S o Q q => ?_⟩
  refine ka _ _ _ _ _ _ o _ (PostV.to (gE Q) q fun x v F1 H1 e1 w1 q1 => ?_)
  refine kb _ _ _ _ _ _ (o.up e1) _ (PostV.to (gE Q) q1 fun y u F2 H2 e2 w2 q2 => ?_)
  exact k F2 H2 x y v u Q e2.fh (w1.up e2) w2 (PostP.of q2)
theorem op_inAll (hu : X.A.units + 65 < cLine) : OpR X (compareOp .In) (rInAll X false) := op_sgn.or (op_in_seq.or (op_inD hu))
theorem op_notInAll (hu : X.A.units + 65 < cLine) : OpR X (compareOp .NotIn) (rInAll X true) := op_sgnN.or (op_notIn_seq.or (op_notInD hu))
def isDct : D → Bool
  | .dct _ => true
  | _ => false
theorem dc_in {ma mb : List Sl → R D} (hu : X.A.units + 65 < cLine) (ha : DR C X W a ma) (hb : DR C X W b mb) : DC C X W .In a b (m2 inD ma mb) := by
  obtain ⟨ta, pa, ka⟩ := ha.ex
  obtain ⟨tb, pb, kb⟩ := hb.ex
  refine .of ⟨_, pc_or2 (pc_op (op_inAll hu) pa pb) (pc_din (by omega) pa pb), fun F0 H0 F H σ S o Q q => ?_⟩
  by_cases c : ∃ es, mb S = .ok (.dct es)
  · obtain ⟨es, hes⟩ := c
    refine .inr (ka _ _ _ _ _ _ o _ (PostV.to (gE Q) q fun x v F1 H1 e1 w1 q1 => ?_))
    refine kb _ _ _ _ _ _ (o.up e1) _ (PostV.toq (gE Q) q1 fun y u F2 H2 ey e2 w2 q2 => ?_)
    rw [hes] at ey
    cases ey
    cases x with
    | int i =>
      have w3 : Vw X.K F2 H2 v (.int i) := w1.up e2
      cases w3.isInt
      obtain ⟨a, kvs, rfl, hd, hk⟩ := w2.isDct e2.fh
      refine ⟨a, _, rfl, .inl ⟨kvs, .inl i, hd, rfl, rfl⟩, ?_⟩
      have es2 : (valV kvs (Sum.inl i : Key)).isSome = (keyD es i).isSome := by
        rcases valV_keyD i hk with ⟨z1, z2⟩ | ⟨_, _, z1, z2, _⟩
        · rw [z1, z2]
          rfl
        · rw [z1, z2]
          rfl
      rw [es2]
      exact Post.here q2 e2.fh (.bl _)
    | _ => exact q2.elim
  · refine .inl (ka _ _ _ _ _ _ o _ (PostV.to (gE Q) q fun x v F1 H1 e1 w1 q1 => ?_))
    refine kb _ _ _ _ _ _ (o.up e1) _ (PostV.toq (gE Q) q1 fun y u F2 H2 ey e2 w2 q2 => ?_)
    refine in_post (neg := false) e2.fh (w1.up e2) w2 (fun es z => c ⟨es, by rw [ey, z]⟩) ?_
    have q3 := PostP.of q2
    cases h : inD x y with
    | ok z => rw [h] at q3; exact q3
    | exc z => trivial
    | bad => rw [h] at q3; exact q3
theorem dc_notIn {ma mb : List Sl → R D} (hu : X.A.units + 65 < cLine) (ha : DR C X W a ma) (hb : DR C X W b mb) : DC C X W .NotIn a b (m2 notInD ma mb) := by
  obtain ⟨ta, pa, ka⟩ := ha.ex
  obtain ⟨tb, pb, kb⟩ := hb.ex
  refine .of ⟨_, pc_or2 (pc_op (op_notInAll hu) pa pb) (pc_dnotin (by omega) pa pb), fun F0 H0 F H σ S o Q q => ?_⟩
  by_cases c : ∃ es, mb S = .ok (.dct es)
  · obtain ⟨es, hes⟩ := c
    refine .inr (ka _ _ _ _ _ _ o _ (PostV.to (gE Q) q fun x v F1 H1 e1 w1 q1 => ?_))
    refine kb _ _ _ _ _ _ (o.up e1) _ (PostV.toq (gE Q) q1 fun y u F2 H2 ey e2 w2 q2 => ?_)
    rw [hes] at ey
    cases ey
    cases x with
    | int i =>
      have w3 : Vw X.K F2 H2 v (.int i) := w1.up e2
      cases w3.isInt
      obtain ⟨a, kvs, rfl, hd, hk⟩ := w2.isDct e2.fh
      refine ⟨a, _, rfl, .inl ⟨kvs, .inl i, hd, rfl, rfl⟩, ?_⟩
      have es2 : (valV kvs (Sum.inl i : Key)).isSome = (keyD es i).isSome := by
        rcases valV_keyD i hk with ⟨z1, z2⟩ | ⟨_, _, z1, z2, _⟩
        · rw [z1, z2]
          rfl
        · rw [z1, z2]
          rfl
      rw [es2]
      exact Post.here (x := .bl (!(keyD es i).isSome)) q2 e2.fh (.bl _)
    | _ => exact q2.elim
  · refine .inl (ka _ _ _ _ _ _ o _ (PostV.to (gE Q) q fun x v F1 H1 e1 w1 q1 => ?_))
    refine kb _ _ _ _ _ _ (o.up e1) _ (PostV.toq (gE Q) q1 fun y u F2 H2 ey e2 w2 q2 => ?_)
    refine in_post (neg := true) e2.fh (w1.up e2) w2 (fun es z => c ⟨es, by rw [ey, z]⟩) ?_
    exact PostP.of q2
theorem de_cmp {op : CmpOp} {m : List Sl → R D} (h : DC C X W op a b m) (h1 : behindInMarks op b = false) : DE C X W (.Compare a [op] [b] pos) m := ⟨pe_cmp h.run h1⟩
def tBl : D → R Bool
  | .bl b => .ok b
  | _ => .bad
theorem dt_cmp {op : CmpOp} {m : List Sl → R D} (h : DC C X W op a b m) (h1 : behindInMarks op b = false) : DT C X W (.Compare a [op] [b] pos) (fun S => (m S).bind tBl) := by
  obtain ⟨t, p, k⟩ := h.ex
  refine .of ⟨_, pt_cmp p h1, fun F0 H0 F H σ S o Q q => ?_⟩
  refine k _ _ _ _ _ _ o _ (Post.to (gT Q) q fun x v F1 H1 e1 r1 q1 => ?_)
  cases x with
  | bl z => cases r1; exact ⟨z, rfl, q1 F1 H1 (Ext.refl e1.fh)⟩
  | _ => exact q1.elim
/-- a op b op' c -/
def m3 (g g' : D → D → R D) (ma mb mc : List Sl → R D) (S : List Sl) : R D :=
  (ma S).bind fun x => (mb S).bind fun y => (g x y).bind fun z => (tBl z).bind fun k => if k = true then (mc S).bind fun w => g' y w else .ok (.bl false)
theorem chain_post {c : Expr} {op op' : CmpOp} {g g' : D → D → R D} {ma mb mc : List Sl → R D} (og : OpD X (compareOp op) g) (og' : OpD X (compareOp op') g') (ha : DR C X W a ma) (hb : DR C X W b mb) (hc : DR C X W c mc) :
    ∃ (r r' : R2) (ta tb tc : TE), OpR X (compareOp op) r ∧ OpR X (compareOp op') r' ∧ PE X a ta ∧ PE X b tb ∧ PE X c tc ∧ ∀ F0 H0 F H σ S, Ok X.K F0 H0 F H σ S → ∀ Q, Post C X.K W σ F H (m3 g g' ma mb mc S) Q → tChain r r' ta tb tc σ H Q := by
  obtain ⟨r, hr, k⟩ := og
  obtain ⟨r', hr', k'⟩ := og'
  obtain ⟨ta, pa, ka⟩ := ha.ex
  obtain ⟨tb, pb, kb⟩ := hb.ex
  obtain ⟨tc, pc, kc⟩ := hc.ex
  refine ⟨r, r', ta, tb, tc, hr, hr', pa, pb, pc, fun F0 H0 F H σ S o Q q => ?_⟩
  refine ka _ _ _ _ _ _ o _ (PostV.to (gE Q) q fun x v F1 H1 e1 w1 q1 => ?_)
  refine kb _ _ _ _ _ _ (o.up e1) _ (PostV.to (gE Q) q1 fun y u F2 H2 e2 w2 q2 => ?_)
  refine k F2 H2 x y v u _ e2.fh (w1.up e2) w2 (PostP.of (Post.to (gE Q) q2 fun z zv F3 H3 e3 r3 q3 => ?_))
  cases z with
  | bl z =>
    cases r3
    refine ⟨z, rfl, ?_⟩
    cases z with
    | false => exact Post.here q3 e3.fh (.bl _)
    | true =>
      refine kc _ _ _ _ _ _ (((o.up e1).up e2).up e3) _ (PostV.to (gE Q) q3 fun w wv F4 H4 e4 w4 q4 => ?_)
      exact k' F4 H4 y w u wv Q e4.fh ((w2.up e3).up e4) w4 (PostP.of q4)
  | _ => exact q3.elim
theorem de_chain {c : Expr} {op op' : CmpOp} {g g' : D → D → R D} {ma mb mc : List Sl → R D} (og : OpD X (compareOp op) g) (og' : OpD X (compareOp op') g') (ha : DR C X W a ma) (hb : DR C X W b mb) (hc : DR C X W c mc)
    (hm : lastMarks [op, op'] [b, c] = false) : DE C X W (.Compare a [op, op'] [b, c] pos) (m3 g g' ma mb mc) := by
  obtain ⟨r, r', ta, tb, tc, hr, hr', pa, pb, pc, k⟩ := chain_post og og' ha hb hc
  exact .of ⟨_, pe_chain hr hr' pa pb pc hm, k⟩
theorem dt_chain {c : Expr} {op op' : CmpOp} {g g' : D → D → R D} {ma mb mc : List Sl → R D} (og : OpD X (compareOp op) g) (og' : OpD X (compareOp op') g') (ha : DR C X W a ma) (hb : DR C X W b mb) (hc : DR C X W c mc)
    (hm : lastMarks [op, op'] [b, c] = false) : DT C X W (.Compare a [op, op'] [b, c] pos) (fun S => (m3 g g' ma mb mc S).bind tBl) := by
  obtain ⟨r, r', ta, tb, tc, hr, hr', pa, pb, pc, k⟩ := chain_post og og' ha hb hc
  refine .of ⟨_, pt_chain hr hr' pa pb pc hm, fun F0 H0 F H σ S o Q q => ?_⟩
  refine k _ _ _ _ _ _ o _ (Post.to (gT Q) q fun x v F1 H1 e1 r1 q1 => ?_)
  cases x with
  | bl z => cases r1; exact ⟨z, rfl, q1 F1 H1 (Ext.refl e1.fh)⟩
  | _ => exact q1.elim

/-! ### truth, and, or, not -/
def trD : D → R Bool
  | .non => .ok false
  | .bl b => .ok b
  | .int i => .ok (i != 0)
  | .str s => if s.length ≤ sizeLine then .ok ((s.length : Int) != 0) else .bad
  | .lst xs => .ok (!xs.isEmpty)
  | .tup xs => .ok (!xs.isEmpty)
  | .scr ns => .ok (!ns.isEmpty)
  | .dct _ => .bad
theorem isEmpty_rp {K : PySem.W.Frag} {F : Hp} {vs : List V} {ds : List D} (h : RpA K F vs ds) : vs.isEmpty = ds.isEmpty := by cases h <;> rfl
theorem tru_of {K : PySem.W.Frag} {F H : Hp} {x : D} {v : V} {b : Bool} (e : Same F H) (w : Vw K F H v x) (h : trD x = .ok b) : TruV K v H b := by
  cases x with
  | non => cases w.isNon; cases h; rfl
  | bl b => cases w.isBl; cases h; rfl
  | int b => cases w.isInt; cases h; rfl
  | str s =>
    cases w.isStr
    by_cases c : s.length ≤ sizeLine
    · rw [trD, if_pos c] at h
      cases h; exact ⟨c, rfl⟩
    · rw [trD, if_neg c] at h
      cases h
  | lst b => obtain ⟨a, vs, rfl, ha, ra⟩ := w.isLst e; cases h; exact .inl ⟨vs, SqL.of ha, by rw [isEmpty_rp ra]⟩
  | tup b => obtain ⟨a, vs, rfl, ha, ra⟩ := w.isTup; cases h; exact .inr (.inl ⟨vs, SqT.of (e _ _ ha), by rw [isEmpty_rp ra]⟩)
  | scr ns => obtain ⟨a, rfl, ha⟩ := w.isScr e; cases h; exact .inl ⟨_, ha, by cases ns <;> rfl⟩
  | dct b => cases h
theorem trD_exc {x : D} {e : Exn} : trD x ≠ .exc e := by
  intro h
  cases x with
  | str s =>
    by_cases c : s.length ≤ sizeLine
    · rw [trD, if_pos c] at h
      cases h
    · rw [trD, if_neg c] at h
      cases h
  | _ => cases h
/-- a test by its value's truth -/
theorem dt_tru {ma : List Sl → R D} (ha : DR C X W a ma) (he : ∀ whole, isTrue a X.env whole = (do let v ← whole; standAt a.pos; holding [v] (truthy v))) : DT C X W a (fun S => (ma S).bind trD) := by
  obtain ⟨ta, pa, ka⟩ := ha.ex
  refine .of ⟨_, pt_truth pa he, fun F0 H0 F H σ S o Q q => ?_⟩
  refine ka _ _ _ _ _ _ o _ (PostV.to (gT Q) q fun x v F1 H1 e1 w1 q1 => ?_)
  cases h : trD x with
  | ok b => rw [h] at q1; exact ⟨b, tru_of e1.fh w1 h, q1 F1 H1 (Ext.refl e1.fh)⟩
  | exc e => exact absurd h trD_exc
  | bad => rw [h] at q1; exact q1.elim
def tAnd2 (ma mb : List Sl → R Bool) (S : List Sl) : R Bool := (ma S).bind fun c => if c = true then mb S else .ok false
def tOr2 (ma mb : List Sl → R Bool) (S : List Sl) : R Bool := (ma S).bind fun c => if c = true then .ok true else mb S
def tNot1 (ma : List Sl → R Bool) (S : List Sl) : R Bool := (ma S).bind fun c => .ok (!c)
theorem dw_and1 {ma : List Sl → R Bool} (ha : DT C X W a ma) : DW C X W (.BoolOp .And [a] pos) ma := ⟨pw_and1 ha.run⟩
theorem dw_or1 {ma : List Sl → R Bool} (ha : DT C X W a ma) : DW C X W (.BoolOp .Or [a] pos) ma := ⟨pw_or1 ha.run⟩
theorem dw_and {ma mb : List Sl → R Bool} {rest : List Expr} (ha : DT C X W a ma) (hb : DW C X W (.BoolOp .And (b :: rest) pos) mb) : DW C X W (.BoolOp .And (a :: b :: rest) pos) (tAnd2 ma mb) := by
  obtain ⟨ta, pa, ka⟩ := ha.ex
  obtain ⟨tb, pb, kb⟩ := hb.ex
  refine .of ⟨_, pw_and pa pb, fun F0 H0 F H σ S o Q q => ?_⟩
  refine ka _ _ _ _ _ _ o _ (PostT.to (gT Q) q fun c F1 H1 e1 q1 => ?_)
  cases c with
  | true => exact kb _ _ _ _ _ _ (o.up e1) _ q1
  | false => exact q1 F1 H1 (Ext.refl e1.fh)
theorem dw_or {ma mb : List Sl → R Bool} {rest : List Expr} (ha : DT C X W a ma) (hb : DW C X W (.BoolOp .Or (b :: rest) pos) mb) : DW C X W (.BoolOp .Or (a :: b :: rest) pos) (tOr2 ma mb) := by
  obtain ⟨ta, pa, ka⟩ := ha.ex
  obtain ⟨tb, pb, kb⟩ := hb.ex
  refine .of ⟨_, pw_or pa pb, fun F0 H0 F H σ S o Q q => ?_⟩
  refine ka _ _ _ _ _ _ o _ (PostT.to (gT Q) q fun c F1 H1 e1 q1 => ?_)
  cases c with
  | true => exact q1 F1 H1 (Ext.refl e1.fh)
  | false => exact kb _ _ _ _ _ _ (o.up e1) _ q1
theorem dt_w {ma : List Sl → R Bool} (h : DW C X W a ma) : DT C X W a ma := ⟨h.run.pt⟩
theorem dt_not {ma : List Sl → R Bool} (ha : DT C X W a ma) : DT C X W (.UnaryOp .Not a pos) (tNot1 ma) := by
  obtain ⟨ta, pa, ka⟩ := ha.ex
  refine .of ⟨_, pt_not pa, fun F0 H0 F H σ S o Q q => ?_⟩
  exact ka _ _ _ _ _ _ o _ (PostT.to (gT Q) q fun c F1 H1 e1 q1 => q1 F1 H1 (Ext.refl e1.fh))
/-- as values -/
def mAnd2 (ma mb : List Sl → R D) (S : List Sl) : R D := (ma S).bind fun x => (trD x).bind fun c => if c = true then mb S else .ok x
def mOr2 (ma mb : List Sl → R D) (S : List Sl) : R D := (ma S).bind fun x => (trD x).bind fun c => if c = true then .ok x else mb S
theorem de_one {op} {ma : List Sl → R D} (ha : DE C X W a ma) : DE C X W (.BoolOp op [a] pos) ma := ⟨pe_one ha.run⟩
theorem de_and {ma mb : List Sl → R D} {rest : List Expr} (ha : DE C X W a ma) (hb : DE C X W (.BoolOp .And (b :: rest) pos) mb) : DE C X W (.BoolOp .And (a :: b :: rest) pos) (mAnd2 ma mb) := by
  obtain ⟨ta, pa, ka⟩ := ha.ex
  obtain ⟨tb, pb, kb⟩ := hb.ex
  refine .of ⟨_, pe_andT pa pb, fun F0 H0 F H σ S o Q q => ?_⟩
  refine ka _ _ _ _ _ _ o _ (Post.to (gE Q) q fun x v F1 H1 e1 r1 q1 => ?_)
  cases h : trD x with
  | ok c =>
    rw [h] at q1
    refine ⟨c, tru_of e1.fh (.of r1) h, ?_⟩
    cases c with
    | true => exact kb _ _ _ _ _ _ (o.up e1) _ q1
    | false => exact Post.here q1 e1.fh r1
  | exc e => exact absurd h trD_exc
  | bad => rw [h] at q1; exact q1.elim
theorem de_or {ma mb : List Sl → R D} {rest : List Expr} (ha : DE C X W a ma) (hb : DE C X W (.BoolOp .Or (b :: rest) pos) mb) : DE C X W (.BoolOp .Or (a :: b :: rest) pos) (mOr2 ma mb) := by
  obtain ⟨ta, pa, ka⟩ := ha.ex
  obtain ⟨tb, pb, kb⟩ := hb.ex
  refine .of ⟨_, pe_orT pa pb, fun F0 H0 F H σ S o Q q => ?_⟩
  refine ka _ _ _ _ _ _ o _ (Post.to (gE Q) q fun x v F1 H1 e1 r1 q1 => ?_)
  cases h : trD x with
  | ok c =>
    rw [h] at q1
    refine ⟨c, tru_of e1.fh (.of r1) h, ?_⟩
    cases c with
    | true => exact Post.here q1 e1.fh r1
    | false => exact kb _ _ _ _ _ _ (o.up e1) _ q1
  | exc e => exact absurd h trD_exc
  | bad => rw [h] at q1; exact q1.elim
def mNot (ma : List Sl → R D) (S : List Sl) : R D := (ma S).bind fun x => (trD x).bind fun c => .ok (.bl (!c))
theorem de_not {ma : List Sl → R D} (ha : DR C X W a ma) : DE C X W (.UnaryOp .Not a pos) (mNot ma) := by
  obtain ⟨ta, pa, ka⟩ := ha.ex
  refine .of ⟨_, pe_notT pa, fun F0 H0 F H σ S o Q q => ?_⟩
  refine ka _ _ _ _ _ _ o _ (PostV.to (gE Q) q fun x v F1 H1 e1 w1 q1 => ?_)
  cases h : trD x with
  | ok c => rw [h] at q1; exact ⟨c, tru_of e1.fh w1 h, Post.here q1 e1.fh (.bl _)⟩
  | exc e => exact absurd h trD_exc
  | bad => rw [h] at q1; exact q1.elim
def mIf (mt : List Sl → R Bool) (ma mb : List Sl → R D) (S : List Sl) : R D := (mt S).bind fun c => if c = true then ma S else mb S
theorem de_if {c : Expr} {mt : List Sl → R Bool} {ma mb : List Sl → R D} (hc : DT C X W c mt) (ha : DE C X W a ma) (hb : DE C X W b mb) : DE C X W (.IfExp c a b pos) (mIf mt ma mb) := by
  obtain ⟨tt, pt, kt⟩ := hc.ex
  obtain ⟨ta, pa, ka⟩ := ha.ex
  obtain ⟨tb, pb, kb⟩ := hb.ex
  refine .of ⟨_, pe_ifExp pt pa pb, fun F0 H0 F H σ S o Q q => ?_⟩
  refine kt _ _ _ _ _ _ o _ (PostT.to (gE Q) q fun c F1 H1 e1 q1 => ?_)
  cases c with
  | true => exact ka _ _ _ _ _ _ (o.up e1) _ q1
  | false => exact kb _ _ _ _ _ _ (o.up e1) _ q1

/-! ### arguments, displays -/
def aNil (_ : List Sl) : R (List D) := .ok []
def aCons (ma : List Sl → R D) (mr : List Sl → R (List D)) (S : List Sl) : R (List D) := (ma S).bind fun x => (mr S).bind fun xs => .ok (x :: xs)
theorem da_nil : DA C X W [] aNil := .of ⟨_, pa_nil, fun F0 H0 F H σ S o Q q => q [] F H (Ext.refl o.sub) .nil⟩
theorem dar_nil : DAR C X W [] aNil := .of ⟨_, pa_nil, fun F0 H0 F H σ S o Q q => q [] F H (Ext.refl o.sub) .nil⟩
theorem da_cons {ma : List Sl → R D} {mr : List Sl → R (List D)} (ha : DR C X W e ma) (hr : DA C X W es mr) (hs : starEach (e :: es) X.env = (false, eval e X.env) :: starEach es X.env := by rfl) : DA C X W (e :: es) (aCons ma mr) := by
  obtain ⟨ta, pa, ka⟩ := ha.ex
  obtain ⟨tb, pb, kb⟩ := hr.ex
  refine .of ⟨_, pa_cons pa pb hs, fun F0 H0 F H σ S o Q q => ?_⟩
  refine ka _ _ _ _ _ _ o _ (PostV.to (gA Q) q fun x v F1 H1 e1 w1 q1 => ?_)
  refine kb _ _ _ _ _ _ (o.up e1) _ (PostA.to (gA Q) q1 fun xs vs F2 H2 e2 w2 q2 => ?_)
  exact q2 _ F2 H2 (Ext.refl e2.fh) (.cons (w1.up e2) w2)
theorem dar_cons {ma : List Sl → R D} {mr : List Sl → R (List D)} (ha : DE C X W e ma) (hr : DAR C X W es mr) (hs : starEach (e :: es) X.env = (false, eval e X.env) :: starEach es X.env := by rfl) : DAR C X W (e :: es) (aCons ma mr) := by
  obtain ⟨ta, pa, ka⟩ := ha.ex
  obtain ⟨tb, pb, kb⟩ := hr.ex
  refine .of ⟨_, pa_cons pa pb hs, fun F0 H0 F H σ S o Q q => ?_⟩
  refine ka _ _ _ _ _ _ o _ (Post.to (gAR Q) q fun x v F1 H1 e1 w1 q1 => ?_)
  refine kb _ _ _ _ _ _ (o.up e1) _ (PostAR.to (gAR Q) q1 fun xs vs F2 H2 e2 w2 q2 => ?_)
  exact q2 _ F2 H2 (Ext.refl e2.fh) (.cons (w1.up e2.ff) w2)
def lim (ds : List D) : R (List D) := if ds.length ≤ sizeLine then .ok ds else .bad
theorem lim_ok {ds es : List D} (h : lim ds = .ok es) : es = ds ∧ ds.length ≤ sizeLine := by
  unfold lim at h
  split at h
  · cases h; exact ⟨rfl, by assumption⟩
  · cases h
def aLim (ma : List Sl → R (List D)) (S : List Sl) : R (List D) := (ma S).bind lim
theorem dn_lst {ma : List Sl → R (List D)} (ha : DAR C X W es ma) : DN C X W (.List es pos) (aLim ma) := by
  obtain ⟨ta, pa, ka⟩ := ha.ex
  refine .of ⟨_, pe_lst pa, fun F0 H0 F H σ S o Q q => ?_⟩
  refine ka _ _ _ _ _ _ o _ (PostAR.to (gN Q) q fun xs vs F1 H1 e1 r1 q1 => ?_)
  by_cases c : xs.length ≤ sizeLine
  · unfold lim at q1
    rw [if_pos c] at q1
    exact ⟨by rw [r1.len]; exact c, fun p hp => q1 p vs F1 _ (Ext.newO e1.fh hp) hp (none_of e1.fh hp) upd_same r1⟩
  · unfold lim at q1
    rw [if_neg c] at q1
    exact q1.elim
theorem de_tup {k : Nat} {ma : List Sl → R (List D)} (ha : DAR C X W es ma) : DE C X W (.Tuple es k pos) (fun S => (aLim ma S).bind fun ds => .ok (.tup ds)) := by
  obtain ⟨ta, pa, ka⟩ := ha.ex
  refine .of ⟨_, pe_tup pa, fun F0 H0 F H σ S o Q q => ?_⟩
  have q' : Post C X.K W σ F H ((ma S).bind fun xs => (lim xs).bind fun ds => .ok (.tup ds)) Q := by
    unfold aLim at q
    cases h : ma S <;> rw [h] at q <;> exact q
  refine ka _ _ _ _ _ _ o _ (PostAR.to (gE Q) q' fun xs vs F1 H1 e1 r1 q1 => ?_)
  by_cases c : xs.length ≤ sizeLine
  · unfold lim at q1
    rw [if_pos c] at q1
    refine ⟨by rw [r1.len]; exact c, fun p hp => ?_⟩
    exact q1 _ _ _ (Ext.new e1.fh hp) (.tup upd_same (r1.up (same_new (none_of e1.fh hp))))
  · unfold lim at q1
    rw [if_neg c] at q1
    exact q1.elim
end
end DL
/-! The data layer, part D: built-in calls, methods, subscripts, slices. -/
namespace DL
open PySem L2

def CallD (X : Cx) (f : Value) (g : List D → R D) : Prop :=
  ∃ r : List V → Hp → VK → Prop, CallR X f r ∧ ∀ F H xs vs Q, Same F H → VwA X.K F H vs xs → PostP X.K F H (g xs) Q → r vs H Q
def PostPN (K : PySem.W.Frag) (F H : Hp) (r : R (List D)) (Q : VK) : Prop := match r with
  | .ok ds => ∀ p vs F' H', Ext F H F' H' → H p = none → F' p = none → H' p = some (.lst vs) → RpA K F' vs ds → Q (.ref p) H'
  | .exc _ => True
  | .bad => False
def CallN (X : Cx) (f : Value) (g : List D → R (List D)) : Prop :=
  ∃ r : List V → Hp → VK → Prop, CallR X f r ∧ ∀ F H xs vs Q, Same F H → VwA X.K F H vs xs → PostPN X.K F H (g xs) Q → r vs H Q
theorem PostPN.of {C : CL} {K : PySem.W.Frag} {W : WX} {σ : St} {F H : Hp} {r : R (List D)} {Q : VK} (h : PostN C K W σ F H r Q) : PostPN K F H r Q := by
  cases r with
  | ok x => exact h
  | exc x => trivial
  | bad => exact h
theorem PostPN.here {K : PySem.W.Frag} {F H : Hp} {ds : List D} {vs : List V} {Q : VK} (h : PostPN K F H (.ok ds) Q) (e : Same F H) (r : RpA K F vs ds) {p : Addr} (hp : H p = none) : Q (.ref p) (upd H p (.lst vs)) :=
  h p vs F _ (Ext.newO e hp) hp (none_of e hp) upd_same r
theorem VwA.c1 {K : PySem.W.Frag} {F H : Hp} {vs : List V} {x : D} (h : VwA K F H vs [x]) : ∃ v, vs = [v] ∧ Vw K F H v x := by
  cases h with
  | cons h1 h2 => cases h2; exact ⟨_, rfl, h1⟩
theorem VwA.c2 {K : PySem.W.Frag} {F H : Hp} {vs : List V} {x y : D} (h : VwA K F H vs [x, y]) : ∃ v u, vs = [v, u] ∧ Vw K F H v x ∧ Vw K F H u y := by
  cases h with
  | cons h1 h2 =>
    cases h2 with
    | cons h2 h3 => cases h3; exact ⟨_, _, rfl, h1, h2⟩
def on1 (g : D → R D) : List D → R D
  | [x] => g x
  | _ => .bad
def on2 (g : D → D → R D) : List D → R D
  | [x, y] => g x y
  | _ => .bad
def onN (g : D → R (List D)) : List D → R (List D)
  | [x] => g x
  | _ => .bad
section
variable {X : Cx}
theorem CallD.one {f : Value} {g : D → R D} (h : ∃ r : List V → Hp → VK → Prop, CallR X f r ∧ ∀ F H x v Q, Same F H → Vw X.K F H v x → PostP X.K F H (g x) Q → r [v] H Q) : CallD X f (on1 g) := by
  obtain ⟨r, hr, k⟩ := h
  refine ⟨r, hr, fun F H xs vs Q e w q => ?_⟩
  match xs, w, q with
  | [x], w, q => obtain ⟨v, ev, w1⟩ := w.c1; subst ev; exact k F H x v Q e w1 q
  | [], _, q => exact q.elim
  | _ :: _ :: _, _, q => exact q.elim
theorem CallD.two {f : Value} {g : D → D → R D} (h : ∃ r : List V → Hp → VK → Prop, CallR X f r ∧ ∀ F H x y v u Q, Same F H → Vw X.K F H v x → Vw X.K F H u y → PostP X.K F H (g x y) Q → r [v, u] H Q) : CallD X f (on2 g) := by
  obtain ⟨r, hr, k⟩ := h
  refine ⟨r, hr, fun F H xs vs Q e w q => ?_⟩
  match xs, w, q with
  | [x, y], w, q => obtain ⟨v, u, rfl, w1, w2⟩ := w.c2; exact k F H x y v u Q e w1 w2 q
  | [], _, q => exact q.elim
  | [_], _, q => exact q.elim
  | _ :: _ :: _ :: _, _, q => exact q.elim
theorem CallN.one {f : Value} {g : D → R (List D)} (h : ∃ r : List V → Hp → VK → Prop, CallR X f r ∧ ∀ F H x v Q, Same F H → Vw X.K F H v x → PostPN X.K F H (g x) Q → r [v] H Q) : CallN X f (onN g) := by
  obtain ⟨r, hr, k⟩ := h
  refine ⟨r, hr, fun F H xs vs Q e w q => ?_⟩
  match xs, w, q with
  | [x], w, q => obtain ⟨v, ev, w1⟩ := w.c1; subst ev; exact k F H x v Q e w1 q
  | [], _, q => exact q.elim
  | _ :: _ :: _, _, q => exact q.elim
end

/-! ### len, abs, str, int -/
def lenD : D → R D
  | .str s => if s.length ≤ sizeLine then .ok (.int s.length) else .bad
  | .lst xs => .ok (.int xs.length)
  | .tup xs => .ok (.int xs.length)
  | .scr ns => .ok (.int ns.length)
  | .dct es => .ok (.int es.length)
  | _ => .bad
def absD : D → R D
  | .int i => .ok (.int (if i < 0 then -i else i))
  | _ => .bad
def strD : D → R D
  | .int i => if i.natAbs.log2 < 1920 then .ok (.str (toString i)) else .bad
  | _ => .bad
def intD : D → R D
  | .int i => .ok (.int i)
  | .bl b => .ok (.int (if b then 1 else 0))
  | .str s => match PySem.intText? s with
    | some n => if s.length ≤ 640 then .ok (.int n) else .bad
    | none => .bad
  | _ => .bad
theorem RpK.len {K : PySem.W.Frag} {F : Hp} : ∀ {vs : List (Key × V)} {ds : List (Int × D)}, RpK K F vs ds → vs.length = ds.length
  | [], _, h => by cases h; rfl
  | v :: vs, _, h => by
    cases h with
    | cons h1 h2 => simp [RpK.len h2]
section
variable {X : Cx}
theorem call_lenR : CallR X (.builtin "len") (fun xs H Q => ∃ a kvs, xs = [V.ref a] ∧ Rd H a (.dK kvs) ∧ Q (.int kvs.length) H) := by
  intro pins s σ H xs us Q I r h
  obtain ⟨a, kvs, rfl, ha, q⟩ := h
  obtain ⟨u, rfl, ru⟩ := vals1 r
  cases ru
  exact d_len I ha fun t s' I' => ⟨.int kvs.length, H, I', ⟨t, rfl⟩, q⟩
theorem cd_len : CallD X (.builtin "len") (on1 lenD) := .one ⟨_, call_len.or call_lenR, fun F H x v Q e w q => by
  cases x with
  | str s =>
    cases w.isStr
    by_cases c : s.length ≤ sizeLine
    · rw [lenD, if_pos c] at q
      exact .inl ⟨_, _, rfl, ⟨c, rfl⟩, q.here e (.int _)⟩
    · rw [lenD, if_neg c] at q; exact q.elim
  | lst xs => obtain ⟨a, vs, rfl, ha, ra⟩ := w.isLst e; exact .inl ⟨_, _, rfl, .inl ⟨vs, SqL.of ha, ra.len.symm⟩, q.here e (.int _)⟩
  | tup xs => obtain ⟨a, vs, rfl, ha, ra⟩ := w.isTup; exact .inl ⟨_, _, rfl, .inr ⟨vs, SqT.of (e _ _ ha), ra.len.symm⟩, q.here e (.int _)⟩
  | scr ns => obtain ⟨a, rfl, ha⟩ := w.isScr e; exact .inl ⟨_, _, rfl, .inl ⟨_, ha, by simp⟩, q.here e (.int _)⟩
  | dct es => obtain ⟨a, vs, rfl, ha, ra⟩ := w.isDct e; exact .inr ⟨a, vs, rfl, ha, by rw [ra.len]; exact q.here e (.int _)⟩
  | _ => exact q.elim⟩
theorem cd_abs : CallD X (.builtin "abs") (on1 absD) := .one ⟨_, call_abs, fun F H x v Q e w q => by
  cases x with
  | int i => cases w.isInt; exact ⟨i, rfl, q.here e (.int _)⟩
  | _ => exact q.elim⟩
theorem cd_str : CallD X (.type "str") (on1 strD) := .one ⟨_, call_str_int, fun F H x v Q e w q => by
  cases x with
  | int i =>
    cases w.isInt
    by_cases c : i.natAbs.log2 < 1920
    · rw [strD, if_pos c] at q
      exact ⟨i, rfl, c, q.here e (.str _)⟩
    · rw [strD, if_neg c] at q; exact q.elim
  | _ => exact q.elim⟩
theorem cd_int : CallD X (.type "int") (on1 intD) := .one ⟨_, call_int1.or call_int_str, fun F H x v Q e w q => by
  cases x with
  | int i => cases w.isInt; exact .inl (.inl ⟨i, rfl, q.here e (.int _)⟩)
  | bl b => cases w.isBl; exact .inl (.inr ⟨b, rfl, q.here e (.int _)⟩)
  | str s =>
    cases w.isStr
    cases h : PySem.intText? s with
    | none => simp only [intD, h] at q; exact q.elim
    | some n =>
      simp only [intD, h] at q
      by_cases c : s.length ≤ 640
      · rw [if_pos c] at q
        exact .inr ⟨s, n, rfl, h, c, q.here e (.int _)⟩
      · rw [if_neg c] at q; exact q.elim
  | _ => exact q.elim⟩
def maxD : D → D → R D
  | .int i, .int j => .ok (.int (if j > i then j else i))
  | _, _ => .bad
theorem cd_max (hc : X.calm = true) : CallD X (.builtin "max") (on2 maxD) := .two ⟨_, call_max2 hc, fun F H x y v u Q e w1 w2 q => by
  cases x with
  | int i =>
    cases y with
    | int j => cases w1.isInt; cases w2.isInt; exact ⟨i, j, rfl, q.here e (.int _)⟩
    | _ => exact q.elim
  | _ => exact q.elim⟩

/-! ### any, all -/
def bool? : D → Option Bool
  | .bl b => some b
  | _ => none
def boolsD : List D → Option (List Bool)
  | [] => some []
  | d :: ds => match bool? d, boolsD ds with
    | some b, some bs => some (b :: bs)
    | _, _ => none
def anyD : D → R D
  | .lst ds => match boolsD ds with
    | some bs => .ok (.bl (bs.any id))
    | none => .bad
  | _ => .bad
def allD : D → R D
  | .lst ds => match boolsD ds with
    | some bs => .ok (.bl (bs.all id))
    | none => .bad
  | _ => .bad
theorem bools_rp {K : PySem.W.Frag} {F : Hp} : ∀ {ds : List D} {vs : List V} {bs : List Bool}, RpA K F vs ds → boolsD ds = some bs → vs = bs.map V.bl
  | [], _, bs, h, e => by cases h; cases e; rfl
  | d :: ds, _, bs, h, e => by
    cases h with
    | cons h1 h2 =>
      cases d with
      | bl b =>
        cases h3 : boolsD ds with
        | none => simp [boolsD, bool?, h3] at e
        | some cs =>
          simp [boolsD, bool?, h3] at e
          subst e
          cases h1
          rw [bools_rp h2 h3]
          rfl
      | _ => simp [boolsD, bool?] at e
theorem cd_any (hc : X.calm = true) : CallD X (.builtin "any") (on1 anyD) := .one ⟨_, cr_any hc, fun F H x v Q e w q => by
  cases x with
  | lst ds =>
    obtain ⟨a, vs, rfl, ha, ra⟩ := w.isLst e
    cases h : boolsD ds with
    | none => simp only [anyD, h] at q; exact q.elim
    | some bs =>
      simp only [anyD, h] at q
      have ev := bools_rp ra h
      subst ev
      exact ⟨a, bs, rfl, SqL.of ha, q.here e (.bl _)⟩
  | _ => exact q.elim⟩
theorem cd_all (hc : X.calm = true) : CallD X (.builtin "all") (on1 allD) := .one ⟨_, cr_all hc, fun F H x v Q e w q => by
  cases x with
  | lst ds =>
    obtain ⟨a, vs, rfl, ha, ra⟩ := w.isLst e
    cases h : boolsD ds with
    | none => simp only [allD, h] at q; exact q.elim
    | some bs =>
      simp only [allD, h] at q
      have ev := bools_rp ra h
      subst ev
      exact ⟨a, bs, rfl, SqL.of ha, q.here e (.bl _)⟩
  | _ => exact q.elim⟩

/-! ### tuple, list, sorted -/
def tupD : D → R D
  | .lst ds => .ok (.tup ds)
  | .tup ds => .ok (.tup ds)
  | _ => .bad
theorem cd_tup : CallD X (.type "tuple") (on1 tupD) := .one ⟨_, call_tuple_of, fun F H x v Q e w q => by
  cases x with
  | lst ds => obtain ⟨a, vs, rfl, ha, ra⟩ := w.isLst e; exact ⟨a, vs, rfl, .inl ⟨SqL.of ha, fun l hl => q.newT e ra hl⟩⟩
  | tup ds => obtain ⟨a, vs, rfl, ha, ra⟩ := w.isTup; exact ⟨a, vs, rfl, .inr ⟨SqT.of (e _ _ ha), q.here e (.tup ha ra)⟩⟩
  | _ => exact q.elim⟩
def lstD : D → R (List D)
  | .lst ds => .ok ds
  | .tup ds => .ok ds
  | _ => .bad
theorem cn_lst : CallN X (.type "list") (onN lstD) := .one ⟨_, call_list_of, fun F H x v Q e w q => by
  cases x with
  | lst ds => obtain ⟨a, vs, rfl, ha, ra⟩ := w.isLst e; exact ⟨a, vs, rfl, .inl (SqL.of ha), fun l hl => q.here e ra hl⟩
  | tup ds => obtain ⟨a, vs, rfl, ha, ra⟩ := w.isTup; exact ⟨a, vs, rfl, .inr (SqT.of (e _ _ ha)), fun l hl => q.here e ra hl⟩
  | _ => exact q.elim⟩
def ins (x : Int) : List Int → List Int
  | [] => [x]
  | y :: ys => if x ≤ y then x :: y :: ys else y :: ins x ys
def srt : List Int → List Int
  | [] => []
  | x :: xs => ins x (srt xs)
theorem ins_perm (x : Int) : ∀ l : List Int, (ins x l).Perm (x :: l)
  | [] => List.Perm.refl _
  | y :: ys => by
    unfold ins
    split
    · exact List.Perm.refl _
    · exact ((ins_perm x ys).cons y).trans (List.Perm.swap x y ys)
theorem srt_perm : ∀ l : List Int, (srt l).Perm l
  | [] => List.Perm.refl _
  | x :: xs => (ins_perm x (srt xs)).trans ((srt_perm xs).cons x)
theorem ins_pair (x : Int) : ∀ l : List Int, l.Pairwise (· ≤ ·) → (ins x l).Pairwise (· ≤ ·)
  | [], _ => List.pairwise_singleton _ _
  | y :: ys, h => by
    obtain ⟨h1, h2⟩ := List.pairwise_cons.mp h
    unfold ins
    split
    · rename_i c
      refine List.pairwise_cons.mpr ⟨fun z hz => ?_, h⟩
      rcases List.mem_cons.mp hz with e | e
      · subst e; exact c
      · exact Int.le_trans c (h1 z e)
    · rename_i c
      refine List.pairwise_cons.mpr ⟨fun z hz => ?_, ins_pair x ys h2⟩
      rcases List.mem_cons.mp ((ins_perm x ys).mem_iff.mp hz) with e | e
      · subst e; omega
      · exact h1 z e
theorem srt_pair : ∀ l : List Int, (srt l).Pairwise (· ≤ ·)
  | [] => List.Pairwise.nil
  | x :: xs => ins_pair x _ (srt_pair xs)
theorem srt_uniq {l m : List Int} (h : m.Perm l) (s : m.Pairwise (· ≤ ·)) : m = srt l :=
  List.Perm.eq_of_pairwise (fun _ _ _ _ h1 h2 => Int.le_antisymm h1 h2) s (srt_pair l) (h.trans (srt_perm l).symm)
def int? : D → Option Int
  | .int i => some i
  | _ => none
def intsD : List D → Option (List Int)
  | [] => some []
  | d :: ds => match int? d, intsD ds with
    | some b, some bs => some (b :: bs)
    | _, _ => none
theorem ints_rp {K : PySem.W.Frag} {F : Hp} : ∀ {ds : List D} {vs : List V} {bs : List Int}, RpA K F vs ds → intsD ds = some bs → vs = bs.map V.int
  | [], _, bs, h, e => by cases h; cases e; rfl
  | d :: ds, _, bs, h, e => by
    cases h with
    | cons h1 h2 =>
      cases d with
      | int b =>
        cases h3 : intsD ds with
        | none => simp [intsD, int?, h3] at e
        | some cs =>
          simp [intsD, int?, h3] at e
          subst e
          cases h1
          rw [ints_rp h2 h3]
          rfl
      | _ => simp [intsD, int?] at e
theorem rp_ints {K : PySem.W.Frag} {F : Hp} : ∀ bs : List Int, RpA K F (bs.map V.int) (bs.map D.int)
  | [] => .nil
  | b :: bs => .cons (.int b) (rp_ints bs)
theorem keys_rp {K : PySem.W.Frag} {F : Hp} : ∀ {vs : List (Key × V)} {ds : List (Int × D)}, RpK K F vs ds → vs.map (·.1) = (ds.map (·.1)).map Sum.inl
  | [], _, h => by cases h; rfl
  | v :: vs, _, h => by
    cases h with
    | cons h1 h2 => simp [keys_rp h2]
def sortedD : D → R (List D)
  | .lst ds => match intsD ds with
    | some ns => .ok ((srt ns).map D.int)
    | none => .bad
  | .dct es => if es.length < 64 then .ok ((srt (es.map (·.1))).map D.int) else .bad
  | _ => .bad
theorem cn_sorted (hc : X.calm = true) : CallN X (.builtin "sorted") (onN sortedD) := .one ⟨_, cr_sortedI.or (call_sortedDI hc), fun F H x v Q e w q => by
  cases x with
  | lst ds =>
    obtain ⟨a, vs, rfl, ha, ra⟩ := w.isLst e
    cases h : intsD ds with
    | none => simp only [sortedD, h] at q; exact q.elim
    | some ns =>
      simp only [sortedD, h] at q
      have ev := ints_rp ra h
      subst ev
      refine .inl ⟨a, ns, rfl, SqL.of ha, fun ns' p hp hs hn => ?_⟩
      rw [srt_uniq hp hs]
      exact q.here e (rp_ints _) hn
  | dct es =>
    obtain ⟨a, vs, rfl, ha, ra⟩ := w.isDct e
    by_cases c : es.length < 64
    · rw [sortedD, if_pos c] at q
      refine .inr ⟨a, vs, es.map (·.1), rfl, ha, keys_rp ra, by simpa using c, fun ns' p hp hs hn => ?_⟩
      rw [srt_uniq hp hs]
      exact q.here e (rp_ints _) hn
    · rw [sortedD, if_neg c] at q; exact q.elim
  | _ => exact q.elim⟩
end

/-! ### the calls -/
section
variable {C : CL} {X : Cx} {W : WX} {e a b : Expr} {pos p apos : Pos} {es : List Expr} {x : Str}
theorem de_callB {id : String} {g : List D → R D} {m : List Sl → R (List D)} (hc : CallD X (.builtin id) g) (hg : Gl X x) (hm : X.mg x = none) (hv : bootBuiltins x = some (.builtin id)) (ha : DA C X W (e :: es) m) (hn : x ≠ "__name__" := by decide) (hdb : (x == ("__debug__" : Str)) = false := by decide)
    (he : starEach (e :: es) X.env = (false, eval e X.env) :: starEach es X.env := by rfl) (hpl : (backTo pos (starEach es X.env)).any (·.1) = false := by rfl) : DE C X W (.Call (.Name x p) (e :: es) [] pos) (fun S => (m S).bind g) := by
  obtain ⟨r, hr, k⟩ := hc
  obtain ⟨ta, pa, ka⟩ := ha.ex
  refine .of ⟨_, pe_callB hr hg hm hv pa hn hdb he hpl, fun F0 H0 F H σ S o Q q => ?_⟩
  refine ka _ _ _ _ _ _ o _ (PostA.to (gE Q) q fun xs vs F1 H1 e1 w1 q1 => ?_)
  exact k F1 H1 xs vs Q e1.fh w1 (PostP.of q1)
theorem de_callT {T : String} {g : List D → R D} {m : List Sl → R (List D)} (hc : CallD X (.type T) g) (hg : Gl X x) (hm : X.mg x = none) (hv : bootBuiltins x = some (.type T)) (ha : DA C X W (e :: es) m) (hn : x ≠ "__name__" := by decide) (hdb : (x == ("__debug__" : Str)) = false := by decide)
    (he : starEach (e :: es) X.env = (false, eval e X.env) :: starEach es X.env := by rfl) (hpl : (backTo pos (starEach es X.env)).any (·.1) = false := by rfl) : DE C X W (.Call (.Name x p) (e :: es) [] pos) (fun S => (m S).bind g) := by
  obtain ⟨r, hr, k⟩ := hc
  obtain ⟨ta, pa, ka⟩ := ha.ex
  refine .of ⟨_, pe_callTy hr hg hm hv pa hn hdb he hpl, fun F0 H0 F H σ S o Q q => ?_⟩
  refine ka _ _ _ _ _ _ o _ (PostA.to (gE Q) q fun xs vs F1 H1 e1 w1 q1 => ?_)
  exact k F1 H1 xs vs Q e1.fh w1 (PostP.of q1)
theorem dn_callB {id : String} {g : List D → R (List D)} {m : List Sl → R (List D)} (hc : CallN X (.builtin id) g) (hg : Gl X x) (hm : X.mg x = none) (hv : bootBuiltins x = some (.builtin id)) (ha : DA C X W (e :: es) m) (hn : x ≠ "__name__" := by decide) (hdb : (x == ("__debug__" : Str)) = false := by decide)
    (he : starEach (e :: es) X.env = (false, eval e X.env) :: starEach es X.env := by rfl) (hpl : (backTo pos (starEach es X.env)).any (·.1) = false := by rfl) : DN C X W (.Call (.Name x p) (e :: es) [] pos) (fun S => (m S).bind g) := by
  obtain ⟨r, hr, k⟩ := hc
  obtain ⟨ta, pa, ka⟩ := ha.ex
  refine .of ⟨_, pe_callB hr hg hm hv pa hn hdb he hpl, fun F0 H0 F H σ S o Q q => ?_⟩
  refine ka _ _ _ _ _ _ o _ (PostA.to (gN Q) q fun xs vs F1 H1 e1 w1 q1 => ?_)
  exact k F1 H1 xs vs Q e1.fh w1 (PostPN.of q1)
theorem dn_callT {T : String} {g : List D → R (List D)} {m : List Sl → R (List D)} (hc : CallN X (.type T) g) (hg : Gl X x) (hm : X.mg x = none) (hv : bootBuiltins x = some (.type T)) (ha : DA C X W (e :: es) m) (hn : x ≠ "__name__" := by decide) (hdb : (x == ("__debug__" : Str)) = false := by decide)
    (he : starEach (e :: es) X.env = (false, eval e X.env) :: starEach es X.env := by rfl) (hpl : (backTo pos (starEach es X.env)).any (·.1) = false := by rfl) : DN C X W (.Call (.Name x p) (e :: es) [] pos) (fun S => (m S).bind g) := by
  obtain ⟨r, hr, k⟩ := hc
  obtain ⟨ta, pa, ka⟩ := ha.ex
  refine .of ⟨_, pe_callTy hr hg hm hv pa hn hdb he hpl, fun F0 H0 F H σ S o Q q => ?_⟩
  refine ka _ _ _ _ _ _ o _ (PostA.to (gN Q) q fun xs vs F1 H1 e1 w1 q1 => ?_)
  exact k F1 H1 xs vs Q e1.fh w1 (PostPN.of q1)

/-! ### isinstance(e, T) -/
def tyN : D → String
  | .non => "NoneType"
  | .bl _ => "bool"
  | .int _ => "int"
  | .str _ => "str"
  | .lst _ => "list"
  | .tup _ => "tuple"
  | .dct _ => "dict"
  | .scr _ => "list"
def isiD (T : String) (x : D) : R D := match x with
  | .scr _ => .bad
  | _ => match kitB (tyN x) T with
    | some b => .ok (.bl b)
    | none => .bad
theorem ty_of {K : PySem.W.Frag} {F H : Hp} {v : V} {x : D} (e : Same F H) (w : Vw K F H v x) (hs : ∀ ns, x ≠ .scr ns) : TyX K H v (.type (tyN x)) := by
  cases x with
  | non => cases w.isNon; exact .base .non
  | bl b => cases w.isBl; exact .base (.bl b)
  | int b => cases w.isInt; exact .base (.int b)
  | str b => cases w.isStr; exact .base (.str b)
  | lst b => obtain ⟨a, vs, rfl, ha, ra⟩ := w.isLst e; exact .base (.lst ha)
  | tup b => obtain ⟨a, vs, rfl, ha, ra⟩ := w.isTup; exact .base (.tup (e _ _ ha))
  | dct b =>
    obtain ⟨a, vs, rfl, ha, ra⟩ := w.isDct e
    rcases ha with ha | ⟨o, ha⟩
    · exact .base (.dK ha)
    · exact .fDict ha
  | scr ns => exact absurd rfl (hs ns)
theorem de_isi {T : Str} {Tn : String} {pT : Pos} {ma : List Sl → R D} (hg : Gl X "isinstance") (hm : X.mg "isinstance" = none) (gT : Gl X T) (mT : X.mg T = none) (bT : bootBuiltins T = some (.type Tn)) (ha : DR C X W e ma)
    (hT : T ≠ "__name__" := by decide) (hd : (T == ("__debug__" : Str)) = false := by decide) (h1 : starEach (e :: [.Name T pT]) X.env = (false, eval e X.env) :: starEach [.Name T pT] X.env := by rfl)
    (h2 : starEach ((.Name T pT) :: []) X.env = (false, eval (.Name T pT) X.env) :: starEach [] X.env := by rfl) (hpl : (backTo pos (starEach [.Name T pT] X.env)).any (·.1) = false := by rfl) :
    DE C X W (.Call (.Name "isinstance" p) [e, .Name T pT] [] pos) (fun S => (ma S).bind (isiD Tn)) := by
  obtain ⟨ta, pa, ka⟩ := ha.ex
  refine .of ⟨_, pe_callB call_isi hg hm PyProof.Rows.boot_isinstance (pa_cons pa (pa_cons (pe_bltn (v := .ty Tn) gT mT bT rfl hT hd) pa_nil h2) h1) (by decide) (by decide) h1 hpl, fun F0 H0 F H σ S o Q q => ?_⟩
  refine ka _ _ _ _ _ _ o _ (PostV.to (gE Q) q fun x v F1 H1 e1 w1 q1 => ?_)
  cases x with
  | scr ns => exact q1.elim
  | _ =>
    unfold isiD at q1
    simp only at q1
    split at q1
    · rename_i b hb
      exact ⟨v, .ty Tn, _, _, b, rfl, .ty Tn, ty_of e1.fh w1 (by intro ns z; cases z), kit_ty hb, Post.here q1 e1.fh (.bl _)⟩
    · exact q1.elim

/-! ### subscripts -/
theorem atI_rp {K : PySem.W.Frag} {F : Hp} {vs : List V} {ds : List D} {i : Int} {d : D} (h : RpA K F vs ds) (e : atI ds i = some d) : ∃ v, atI vs i = some v ∧ Rp K F v d := by
  unfold atI at e ⊢
  rw [h.len]
  cases c : ixN ds.length i with
  | none => rw [c] at e; cases e
  | some j =>
    rw [c] at e
    exact h.getD e
theorem atI_map {α β : Type} {f : α → β} {xs : List α} {i : Int} : atI (xs.map f) i = (atI xs i).map f := by
  unfold atI
  rw [List.length_map]
  cases ixN xs.length i with
  | none => rfl
  | some j => simp
def optD : Option D → R D
  | some d => .ok d
  | none => .bad
def ixD : D → D → R D
  | .lst ds, .int i => optD (atI ds i)
  | .tup ds, .int i => optD (atI ds i)
  | .scr ns, .int i => optD ((atI ns i).map D.int)
  | .str s, .int i => if s.length ≤ sizeLine then optD ((atI s.cps.toList i).map fun c => .str ⟨#[c]⟩) else .bad
  | .dct es, .int i => optD (keyD es i)
  | _, _ => .bad
theorem de_ix {ma mb : List Sl → R D} (hu : X.A.units + 65 < cLine) (ha : DR C X W a ma) (hb : DR C X W b mb) (h1 : PlainIx b) (h2 : NoSl b) : DE C X W (.Subscript a b pos) (m2 ixD ma mb) := by
  obtain ⟨ta, pa, ka⟩ := ha.ex
  obtain ⟨tb, pb, kb⟩ := hb.ex
  refine .of ⟨_, pe_or2 (pe_ix ix_seq pa pb h1) (pe_dget (by omega) pa pb h2), fun F0 H0 F H σ S o Q q => ?_⟩
  by_cases c : ∃ es, ma S = .ok (.dct es)
  · obtain ⟨es, hes⟩ := c
    refine .inr (ka _ _ _ _ _ _ o _ (PostV.toq (gE Q) q fun x v F1 H1 ex e1 w1 q1 => ?_))
    rw [hes] at ex
    cases ex
    refine kb _ _ _ _ _ _ (o.up e1) _ (PostV.to (gE Q) q1 fun y u F2 H2 e2 w2 q2 => ?_)
    cases y with
    | int i =>
      cases w2.isInt
      obtain ⟨a, kvs, rfl, hd, hk⟩ := (w1.up e2).isDct e2.fh
      rcases valV_keyD i hk with ⟨z1, z2⟩ | ⟨v, d, z1, z2, z3⟩
      · simp only [ixD, z2] at q2; exact q2.elim
      · simp only [ixD, z2] at q2
        exact ⟨a, v, rfl, .inl ⟨kvs, .inl i, hd, rfl, z1.symm⟩, Post.here q2 e2.fh z3⟩
    | _ => exact q2.elim
  · refine .inl (ka _ _ _ _ _ _ o _ (PostV.toq (gE Q) q fun x v F1 H1 ex e1 w1 q1 => ?_))
    refine kb _ _ _ _ _ _ (o.up e1) _ (PostV.to (gE Q) q1 fun y u F2 H2 e2 w2 q2 => ?_)
    have w3 := w1.up e2
    cases y with
    | int i =>
      cases w2.isInt
      cases x with
      | lst ds =>
        obtain ⟨a, vs, rfl, ha, ra⟩ := w3.isLst e2.fh
        cases h : atI ds i with
        | none => simp only [ixD, h] at q2; exact q2.elim
        | some d =>
          simp only [ixD, h] at q2
          obtain ⟨v, hv, rv⟩ := atI_rp ra h
          exact .inl ⟨a, vs, i, v, rfl, rfl, SqL.of ha, hv, Post.here q2 e2.fh rv⟩
      | tup ds =>
        obtain ⟨a, vs, rfl, ha, ra⟩ := w3.isTup
        cases h : atI ds i with
        | none => simp only [ixD, h] at q2; exact q2.elim
        | some d =>
          simp only [ixD, h] at q2
          obtain ⟨v, hv, rv⟩ := atI_rp ra h
          exact .inr (.inl ⟨a, vs, i, v, rfl, rfl, SqT.of (e2.fh _ _ ha), hv, Post.here q2 e2.fh rv⟩)
      | scr ns =>
        obtain ⟨a, rfl, ha⟩ := w3.isScr e2.fh
        cases h : atI ns i with
        | none => simp only [ixD, h] at q2; exact q2.elim
        | some d =>
          simp only [ixD, h] at q2
          exact .inl ⟨a, _, i, .int d, rfl, rfl, ha, by rw [atI_map, h] <;> rfl, Post.here q2 e2.fh (.int d)⟩
      | str s =>
        cases w3.isStr
        simp only [ixD] at q2
        by_cases c : s.length ≤ sizeLine
        · rw [if_pos c] at q2
          cases h : atI s.cps.toList i with
          | none => simp only [h] at q2; exact q2.elim
          | some k =>
            simp only [h] at q2
            exact .inr (.inr ⟨s, i, k, rfl, rfl, c, h, Post.here q2 e2.fh (.str _)⟩)
        · rw [if_neg c] at q2; exact q2.elim
      | dct es => exact absurd ⟨es, ex⟩ c
      | _ => exact q2.elim
    | _ => cases x <;> exact q2.elim

/-! ### slices -/
def cutL {α : Type} (xs : List α) (lo hi : Option Int) : List α := (xs.drop (HT.sIx xs.length 0 lo)).take (HT.sIx xs.length xs.length hi - HT.sIx xs.length 0 lo)
theorem cut_rp {K : PySem.W.Frag} {F : Hp} {vs : List V} {ds : List D} (h : RpA K F vs ds) (lo hi : Option Int) : RpA K F (cutV vs lo hi) (cutL ds lo hi) := by
  unfold cutV cutL
  rw [h.len]
  exact (h.drop _).take _
def PostO (C : CL) (K : PySem.W.Frag) (W : WX) (σ : St) (F H : Hp) (r : R (Option Int)) (Q : Option Int → Hp → Prop) : Prop := match r with
  | .ok x => ∀ F' H', Ext F H F' H' → Q x H'
  | .exc e => Wish C W σ F H e
  | .bad => False
structure DO (C : CL) (X : Cx) (W : WX) (e : Option Expr) (m : List Sl → R (Option Int)) : Prop where
  ex : ∃ t, PO X e t ∧ ∀ F0 H0 F H σ S, Ok X.K F0 H0 F H σ S → ∀ Q, PostO C X.K W σ F H (m S) Q → t σ H Q
theorem PostO.to {K : PySem.W.Frag} {σ : St} {F H : Hp} {α : Type} {G : Hp → Hp → R α → Prop} {r : R (Option Int)} {f : Option Int → R α} {Q : Option Int → Hp → Prop} (g : GO C K W σ G) (h : G F H (r.bind f)) (k : ∀ x F1 H1, Ext F H F1 H1 → G F1 H1 (f x) → Q x H1) : PostO C K W σ F H r Q := by
  cases r with
  | ok x => exact fun F1 H1 e => k x F1 H1 e (g.up _ _ _ _ _ e h)
  | exc e => exact g.ge _ _ e h
  | bad => exact (g.gb _ _ h).elim
def oNo (_ : List Sl) : R (Option Int) := .ok none
def toI : D → R (Option Int)
  | .int i => .ok (some i)
  | _ => .bad
def oSome (m : List Sl → R D) (S : List Sl) : R (Option Int) := (m S).bind toI
theorem do_no : DO C X W none oNo := ⟨_, po_none, fun F0 H0 F H σ S o Q q => q F H (Ext.refl o.sub)⟩
theorem gO {K : PySem.W.Frag} {σ : St} (Q : Option Int → Hp → Prop) : GO C K W σ (fun F H r => PostO C K W σ F H r Q) := by
  refine ⟨fun F H F1 H1 x e h => ?_, fun _ _ _ h => h, fun _ _ h => h⟩
  cases x with
  | ok x => exact fun F' H' y => h F' H' (e.trans y)
  | exc x => exact Wish.up h e
  | bad => exact h
theorem do_some {m : List Sl → R D} (h : DR C X W e m) : DO C X W (some e) (oSome m) := by
  obtain ⟨t, p, k⟩ := h.ex
  refine ⟨_, po_some p, fun F0 H0 F H σ S o Q q => ?_⟩
  refine k _ _ _ _ _ _ o _ (PostV.to (gO Q) q fun x v F1 H1 e1 w1 q1 => ?_)
  cases x with
  | int i => cases w1.isInt; exact ⟨i, rfl, q1 F1 H1 (Ext.refl e1.fh)⟩
  | _ => exact q1.elim
def slD (lo hi : Option Int) : D → R D
  | .lst ds => .ok (.lst (cutL ds lo hi))
  | .tup ds => .ok (.tup (cutL ds lo hi))
  | .str s => if s.length ≤ sizeLine then .ok (.str (cutS s lo hi)) else .bad
  | _ => .bad
def mSl (ma : List Sl → R D) (ml mh : List Sl → R (Option Int)) (S : List Sl) : R D := (ma S).bind fun x => (ml S).bind fun l => (mh S).bind fun h => slD l h x
theorem cut_all {vs : List V} {lo hi : Option Int} (h : HT.sIx vs.length 0 lo = 0 ∧ HT.sIx vs.length vs.length hi = vs.length) : cutV vs lo hi = vs := by
  unfold cutV
  rw [h.1, h.2]
  simp
theorem de_sl {p2 : Pos} {lo hi : Option Expr} {ma : List Sl → R D} {ml mh : List Sl → R (Option Int)} (ha : DR C X W a ma) (hl : DO C X W lo ml) (hh : DO C X W hi mh) : DE C X W (.Subscript a (.Slice lo hi none p2) pos) (mSl ma ml mh) := by
  obtain ⟨ta, pa, ka⟩ := ha.ex
  obtain ⟨tl, pl, kl⟩ := hl.ex
  obtain ⟨th, ph, kh⟩ := hh.ex
  refine .of ⟨_, pe_slice (sl_list.or (sl_tupA.or sl_str)) pa pl ph, fun F0 H0 F H σ S o Q q => ?_⟩
  refine ka _ _ _ _ _ _ o _ (PostV.to (gE Q) q fun x v F1 H1 e1 w1 q1 => ?_)
  refine kl _ _ _ _ _ _ (o.up e1) _ (PostO.to (gE Q) q1 fun l F2 H2 e2 q2 => ?_)
  refine kh _ _ _ _ _ _ ((o.up e1).up e2) _ (PostO.to (gE Q) q2 fun u F3 H3 e3 q3 => ?_)
  have w3 := (w1.up e2).up e3
  cases x with
  | lst ds =>
    obtain ⟨a, vs, rfl, ha, ra⟩ := w3.isLst e3.fh
    exact .inl ⟨a, vs, rfl, SqL.of ha, fun p hp => (PostP.of q3).newL e3.fh (cut_rp ra l u) hp⟩
  | tup ds =>
    obtain ⟨a, vs, rfl, ha, ra⟩ := w3.isTup
    refine .inr (.inl ⟨a, vs, rfl, SqT.of (e3.fh _ _ ha), fun z => ?_, fun _ p hp => (PostP.of q3).newT e3.fh (cut_rp ra l u) hp⟩)
    have c := cut_rp ra l u
    rw [cut_all z] at c
    exact Post.here q3 e3.fh (.tup ha c)
  | str s =>
    cases w3.isStr
    unfold slD at q3
    simp only at q3
    by_cases c : s.length ≤ sizeLine
    · rw [if_pos c] at q3
      exact .inr (.inr ⟨s, rfl, c, Post.here q3 e3.fh (.str _)⟩)
    · rw [if_neg c] at q3; exact q3.elim
  | _ => exact q3.elim
def mSlN (ma : List Sl → R D) (ml mh : List Sl → R (Option Int)) (S : List Sl) : R (List D) := (ma S).bind fun x => (ml S).bind fun l => (mh S).bind fun h => match x with
  | .lst ds => .ok (cutL ds l h)
  | _ => .bad
theorem dn_sl {p2 : Pos} {lo hi : Option Expr} {ma : List Sl → R D} {ml mh : List Sl → R (Option Int)} (ha : DR C X W a ma) (hl : DO C X W lo ml) (hh : DO C X W hi mh) : DN C X W (.Subscript a (.Slice lo hi none p2) pos) (mSlN ma ml mh) := by
  obtain ⟨ta, pa, ka⟩ := ha.ex
  obtain ⟨tl, pl, kl⟩ := hl.ex
  obtain ⟨th, ph, kh⟩ := hh.ex
  refine .of ⟨_, pe_slice sl_list pa pl ph, fun F0 H0 F H σ S o Q q => ?_⟩
  refine ka _ _ _ _ _ _ o _ (PostV.to (gN Q) q fun x v F1 H1 e1 w1 q1 => ?_)
  refine kl _ _ _ _ _ _ (o.up e1) _ (PostO.to (gN Q) q1 fun l F2 H2 e2 q2 => ?_)
  refine kh _ _ _ _ _ _ ((o.up e1).up e2) _ (PostO.to (gN Q) q2 fun u F3 H3 e3 q3 => ?_)
  have w3 := (w1.up e2).up e3
  cases x with
  | lst ds =>
    obtain ⟨a, vs, rfl, ha, ra⟩ := w3.isLst e3.fh
    exact ⟨a, vs, rfl, SqL.of ha, fun p hp => (PostPN.of q3).here e3.fh (cut_rp ra l u) hp⟩
  | _ => exact q3.elim
/-- xs + ys, a new list -/
def catN (x y : D) : R (List D) := match x, y with
  | .lst xs, .lst ys => lim (xs ++ ys)
  | _, _ => .bad
def m2N (g : D → D → R (List D)) (ma mb : List Sl → R D) (S : List Sl) : R (List D) := (ma S).bind fun x => (mb S).bind fun y => g x y
theorem dn_cat {ma mb : List Sl → R D} (ha : DR C X W a ma) (hb : DR C X W b mb) : DN C X W (.BinOp a .Add b pos) (m2N catN ma mb) := by
  obtain ⟨ta, pa, ka⟩ := ha.ex
  obtain ⟨tb, pb, kb⟩ := hb.ex
  refine .of ⟨_, pe_op op_cat pa pb, fun F0 H0 F H σ S o Q q => ?_⟩
  refine ka _ _ _ _ _ _ o _ (PostV.to (gN Q) q fun x v F1 H1 e1 w1 q1 => ?_)
  refine kb _ _ _ _ _ _ (o.up e1) _ (PostV.to (gN Q) q1 fun y u F2 H2 e2 w2 q2 => ?_)
  have w3 := w1.up e2
  cases x with
  | lst xs =>
    cases y with
    | lst ys =>
      obtain ⟨a, vs, rfl, ha, ra⟩ := w3.isLst e2.fh
      obtain ⟨b, ws, rfl, hb, rb⟩ := w2.isLst e2.fh
      unfold catN lim at q2
      simp only at q2
      by_cases c : (xs ++ ys).length ≤ sizeLine
      · rw [if_pos c] at q2
        refine ⟨a, b, vs, ws, rfl, rfl, ha, hb, by rw [ra.len, rb.len, ← List.length_append]; exact c, fun p hp => (PostPN.of q2).here e2.fh (ra.app rb) hp⟩
      · rw [if_neg c] at q2; exact q2.elim
    | _ => exact q2.elim
  | _ => exact q2.elim

/-! ### methods of texts; get of a dict -/
def MtD (X : Cx) (id : String) (g : D → D → R D) : Prop :=
  ∃ r : V → List V → Hp → VK → Prop, MtR X id r ∧ ∀ F H x y vx vy Q, Same F H → Vw X.K F H vx x → Vw X.K F H vy y → PostP X.K F H (g x y) Q → (∃ s, vx = .str s) ∧ r vx [vy] H Q
def MtN (X : Cx) (id : String) (g : D → D → R (List D)) : Prop :=
  ∃ r : V → List V → Hp → VK → Prop, MtR X id r ∧ ∀ F H x y vx vy Q, Same F H → Vw X.K F H vx x → Vw X.K F H vy y → PostPN X.K F H (g x y) Q → (∃ s, vx = .str s) ∧ r vx [vy] H Q
def isStrD : D → Bool
  | .str _ => true
  | _ => false
def guardS (x : D) : R D := match x with
  | .str s => .ok (.str s)
  | _ => .bad
theorem de_m1 {id : String} {name : Str} {g : D → D → R D} {ma mb : List Sl → R D} (slot : Slot "str" name id) (ty : typeOf (.builtin id) = pure (.type "method_descriptor")) (rule : MtD X id g) (ha : DR C X W a ma) (hb : DR C X W e mb)
    (hs : starEach [e] X.env = [(false, eval e X.env)] := by rfl) (hbase : attributeBase a name X.env (eval a X.env) = eval a X.env := by rfl) (hline : (apos.endLine == pos.line) = true := by rfl) :
    DE C X W (.Call (.Attribute a name apos) [e] [] pos) (fun S => (ma S).bind fun x => (guardS x).bind fun x => (mb S).bind fun y => g x y) := by
  obtain ⟨r, hr, k⟩ := rule
  obtain ⟨ta, pa, ka⟩ := ha.ex
  obtain ⟨tb, pb, kb⟩ := hb.ex
  refine .of ⟨_, pe_m1 slot ty hr pa pb hs hbase hline, fun F0 H0 F H σ S o Q q => ?_⟩
  refine ka _ _ _ _ _ _ o _ (PostV.to (gE Q) q fun x v F1 H1 e1 w1 q1 => ?_)
  cases x with
  | str s =>
    refine ⟨⟨s, w1.isStr⟩, ?_⟩
    refine kb _ _ _ _ _ _ (o.up e1) _ (PostV.to (gE Q) q1 fun y u F2 H2 e2 w2 q2 => ?_)
    exact (k F2 H2 _ y v u Q e2.fh (w1.up e2) w2 (PostP.of q2)).2
  | _ => exact q1.elim
theorem dn_m1 {id : String} {name : Str} {g : D → D → R (List D)} {ma mb : List Sl → R D} (slot : Slot "str" name id) (ty : typeOf (.builtin id) = pure (.type "method_descriptor")) (rule : MtN X id g) (ha : DR C X W a ma) (hb : DR C X W e mb)
    (hs : starEach [e] X.env = [(false, eval e X.env)] := by rfl) (hbase : attributeBase a name X.env (eval a X.env) = eval a X.env := by rfl) (hline : (apos.endLine == pos.line) = true := by rfl) :
    DN C X W (.Call (.Attribute a name apos) [e] [] pos) (fun S => (ma S).bind fun x => (guardS x).bind fun x => (mb S).bind fun y => g x y) := by
  obtain ⟨r, hr, k⟩ := rule
  obtain ⟨ta, pa, ka⟩ := ha.ex
  obtain ⟨tb, pb, kb⟩ := hb.ex
  refine .of ⟨_, pe_m1 slot ty hr pa pb hs hbase hline, fun F0 H0 F H σ S o Q q => ?_⟩
  refine ka _ _ _ _ _ _ o _ (PostV.to (gN Q) q fun x v F1 H1 e1 w1 q1 => ?_)
  cases x with
  | str s =>
    refine ⟨⟨s, w1.isStr⟩, ?_⟩
    refine kb _ _ _ _ _ _ (o.up e1) _ (PostV.to (gN Q) q1 fun y u F2 H2 e2 w2 q2 => ?_)
    exact (k F2 H2 _ y v u Q e2.fh (w1.up e2) w2 (PostPN.of q2)).2
  | _ => exact q1.elim
def findD : D → D → R D
  | .str s, .str z => .ok (.int (Txt.find s z))
  | _, _ => .bad
theorem md_find : MtD X "str.find" findD := ⟨_, mt_find, fun F H x y vx vy Q e w1 w2 q => by
  cases x with
  | str s =>
    cases y with
    | str z => cases w1.isStr; cases w2.isStr; exact ⟨⟨_, rfl⟩, s, z, rfl, rfl, q.here e (.int _)⟩
    | _ => exact q.elim
  | _ => exact q.elim⟩
def str? : D → Option Str
  | .str s => some s
  | _ => none
def strsD : List D → Option (List Str)
  | [] => some []
  | d :: ds => match str? d, strsD ds with
    | some b, some bs => some (b :: bs)
    | _, _ => none
theorem strs_rp {K : PySem.W.Frag} {F : Hp} : ∀ {ds : List D} {vs : List V} {bs : List Str}, RpA K F vs ds → strsD ds = some bs → vs = bs.map V.str
  | [], _, bs, h, e => by cases h; cases e; rfl
  | d :: ds, _, bs, h, e => by
    cases h with
    | cons h1 h2 =>
      cases d with
      | str b =>
        cases h3 : strsD ds with
        | none => simp [strsD, str?, h3] at e
        | some cs =>
          simp [strsD, str?, h3] at e
          subst e
          cases h1
          rw [strs_rp h2 h3]
          rfl
      | _ => simp [strsD, str?] at e
theorem rp_strs {K : PySem.W.Frag} {F : Hp} : ∀ bs : List Str, RpA K F (bs.map V.str) (bs.map D.str)
  | [] => .nil
  | b :: bs => .cons (.str b) (rp_strs bs)
def joinD : D → D → R D
  | .str s, .lst ds => match strsD ds with
    | some ys => if (ys.map (·.length)).sum + ys.length * s.length ≤ 16777216 then .ok (.str (Txt.join s ys)) else .bad
    | none => .bad
  | _, _ => .bad
theorem md_join : MtD X "str.join" joinD := ⟨_, mt_join, fun F H x y vx vy Q e w1 w2 q => by
  cases x with
  | str s =>
    cases y with
    | lst ds =>
      cases w1.isStr
      obtain ⟨a, vs, rfl, ha, ra⟩ := w2.isLst e
      cases h : strsD ds with
      | none => simp only [joinD, h] at q; exact q.elim
      | some ys =>
        simp only [joinD, h] at q
        have ev := strs_rp ra h
        subst ev
        by_cases c : (ys.map (·.length)).sum + ys.length * s.length ≤ 16777216
        · rw [if_pos c] at q
          exact ⟨⟨_, rfl⟩, s, a, ys, rfl, rfl, .inl (SqL.of ha), c, q.here e (.str _)⟩
        · rw [if_neg c] at q; exact q.elim
    | _ => exact q.elim
  | _ => exact q.elim⟩
def splitD : D → D → R (List D)
  | .str s, .str z => if (z.length == 0) = false ∧ s.length + 2 ≤ sizeLine then .ok ((Txt.split s z).map D.str) else .bad
  | _, _ => .bad
theorem mn_split : MtN X "str.split" splitD := ⟨_, mt_split, fun F H x y vx vy Q e w1 w2 q => by
  cases x with
  | str s =>
    cases y with
    | str z =>
      cases w1.isStr; cases w2.isStr
      by_cases c : (z.length == 0) = false ∧ s.length + 2 ≤ sizeLine
      · rw [splitD, if_pos c] at q
        exact ⟨⟨_, rfl⟩, s, z, rfl, rfl, c.1, c.2, fun p hp => q.here e (rp_strs _) hp⟩
      · rw [splitD, if_neg c] at q; exact q.elim
    | _ => exact q.elim
  | _ => exact q.elim⟩
/-- d.get(k, z) -/
def getD3 : D → D → D → R D
  | .dct es, .int i, z => .ok ((keyD es i).getD z)
  | _, _, _ => .bad
def m3g (ma mb mc : List Sl → R D) (S : List Sl) : R D := (ma S).bind fun x => (mb S).bind fun y => (mc S).bind fun z => getD3 x y z
def isDctR (x : D) : R D := match x with
  | .dct es => .ok (.dct es)
  | _ => .bad
theorem de_get {f : Expr} {cpos : Pos} {ma mb mc : List Sl → R D} (hu : X.A.units + 1 < cLine) (ha : DR C X W a ma) (hb : DR C X W e mb) (hc : DE C X W f mc) (m : M2 X a "get" apos e f cpos) :
    DE C X W (.Call (.Attribute a "get" apos) [e, f] [] cpos) (fun S => (ma S).bind fun x => (isDctR x).bind fun x => (mb S).bind fun y => (mc S).bind fun z => getD3 x y z) := by
  obtain ⟨ta, pa, ka⟩ := ha.ex
  obtain ⟨tb, pb, kb⟩ := hb.ex
  obtain ⟨tc, pc, kc⟩ := hc.ex
  refine .of ⟨_, pe_dget2 hu pa pb pc m, fun F0 H0 F H σ S o Q q => ?_⟩
  refine ka _ _ _ _ _ _ o _ (PostV.to (gE Q) q fun x v F1 H1 e1 w1 q1 => ?_)
  cases x with
  | dct es =>
    obtain ⟨a, kvs, rfl, hd, hk⟩ := w1.isDct e1.fh
    refine ⟨a, rfl, .inl ⟨kvs, hd⟩, ?_⟩
    refine kb _ _ _ _ _ _ (o.up e1) _ (PostV.to (gE Q) q1 fun y u F2 H2 e2 w2 q2 => ?_)
    refine kc _ _ _ _ _ _ ((o.up e1).up e2) _ (Post.to (gE Q) q2 fun z zv F3 H3 e3 r3 q3 => ?_)
    cases y with
    | int i =>
      cases w2.isInt
      have hd3 : Rd H3 a (.dK kvs) := rd_mono e3.hh (rd_mono e2.hh hd)
      have hk3 := (hk.up e2.ff).up e3.ff
      rcases valV_keyD i hk3 with ⟨z1, z2⟩ | ⟨v, d, z1, z2, z3⟩
      · refine ⟨none, .inl ⟨kvs, .inl i, hd3, rfl, z1.symm⟩, ?_⟩
        simp only [getD3, z2] at q3
        exact Post.here q3 e3.fh r3
      · refine ⟨some v, .inl ⟨kvs, .inl i, hd3, rfl, z1.symm⟩, ?_⟩
        simp only [getD3, z2] at q3
        exact Post.here q3 e3.fh z3
    | _ => exact q3.elim
  | _ => exact q1.elim
end
end DL
/-! The data layer, part E: what is walked, comprehensions, statements, defs. -/
namespace DL
open PySem L2

/-! ### what is walked -/
def Walk (K : PySem.W.Frag) (J : It) (B F : Hp) (ds : List D) : Prop :=
  ∀ (i : Nat) (H' : Hp), Same B H' → (∀ d, ds[i]? = some d → J.go i H' ∧ ∀ x H'', J.yld i H' x H'' → H'' = H' ∧ Rp K F x d) ∧ (ds.length ≤ i → J.stop i H')
theorem Walk.up {K : PySem.W.Frag} {J : It} {B B' F : Hp} {ds : List D} (h : Walk K J B F ds) (e : Same B B') : Walk K J B' F ds := fun i H' q => h i H' (e.trans q)
/-- read at once; known to all -/
def PostI (C : CL) (K : PySem.W.Frag) (W : WX) (σ : St) (F H : Hp) (r : R (List D)) (Q : It → Hp → Prop) : Prop := match r with
  | .ok ds => ∀ J F' H', Ext F H F' H' → Walk K J H' F' ds → Q J H'
  | .exc e => Wish C W σ F H e
  | .bad => False
def PostIS (C : CL) (K : PySem.W.Frag) (W : WX) (σ : St) (F H : Hp) (r : R (List D)) (Q : It → Hp → Prop) : Prop := match r with
  | .ok ds => ∀ J F' H', Ext F H F' H' → Walk K J F' F' ds → Q J H'
  | .exc e => Wish C W σ F H e
  | .bad => False
def cI (C : CL) (K : PySem.W.Frag) (W : WX) (m : List Sl → R (List D)) : TI := fun σ H Q => ∃ F0 H0 F S, Ok K F0 H0 F H σ S ∧ PostI C K W σ F H (m S) Q
def cIS (C : CL) (K : PySem.W.Frag) (W : WX) (m : List Sl → R (List D)) : TI := fun σ H Q => ∃ F0 H0 F S, Ok K F0 H0 F H σ S ∧ PostIS C K W σ F H (m S) Q
structure DI (C : CL) (X : Cx) (W : WX) (tg e : Expr) (m : List Sl → R (List D)) : Prop where
  run : PI X tg e (cI C X.K W m)
structure DIS (C : CL) (X : Cx) (W : WX) (tg e : Expr) (m : List Sl → R (List D)) : Prop where
  run : PI X tg e (cIS C X.K W m)
section
variable {C : CL} {X : Cx} {W : WX} {tg e a b c : Expr} {p pos : Pos}
theorem DI.of {m : List Sl → R (List D)} (h : ∃ t, PI X tg e t ∧ ∀ F0 H0 F H σ S, Ok X.K F0 H0 F H σ S → ∀ Q, PostI C X.K W σ F H (m S) Q → t σ H Q) : DI C X W tg e m := by
  obtain ⟨t, p, k⟩ := h
  exact ⟨⟨fun pins s σ H Q I ⟨F0, H0, F, S, o, q⟩ => p.run pins s σ H Q I (k F0 H0 F H σ S o Q q)⟩⟩
theorem DI.ex {m : List Sl → R (List D)} (h : DI C X W tg e m) : ∃ t, PI X tg e t ∧ ∀ F0 H0 F H σ S, Ok X.K F0 H0 F H σ S → ∀ Q, PostI C X.K W σ F H (m S) Q → t σ H Q :=
  ⟨_, h.run, fun F0 H0 F H σ S o Q q => ⟨F0, H0, F, S, o, q⟩⟩
theorem DIS.of {m : List Sl → R (List D)} (h : ∃ t, PI X tg e t ∧ ∀ F0 H0 F H σ S, Ok X.K F0 H0 F H σ S → ∀ Q, PostIS C X.K W σ F H (m S) Q → t σ H Q) : DIS C X W tg e m := by
  obtain ⟨t, p, k⟩ := h
  exact ⟨⟨fun pins s σ H Q I ⟨F0, H0, F, S, o, q⟩ => p.run pins s σ H Q I (k F0 H0 F H σ S o Q q)⟩⟩
theorem DIS.ex {m : List Sl → R (List D)} (h : DIS C X W tg e m) : ∃ t, PI X tg e t ∧ ∀ F0 H0 F H σ S, Ok X.K F0 H0 F H σ S → ∀ Q, PostIS C X.K W σ F H (m S) Q → t σ H Q :=
  ⟨_, h.run, fun F0 H0 F H σ S o Q q => ⟨F0, H0, F, S, o, q⟩⟩
theorem DIS.i {m : List Sl → R (List D)} (h : DIS C X W tg e m) : DI C X W tg e m := by
  obtain ⟨t, p, k⟩ := h.ex
  refine .of ⟨t, p, fun F0 H0 F H σ S o Q q => k F0 H0 F H σ S o Q ?_⟩
  cases hm : m S with
  | ok x => rw [hm] at q; exact fun J F' H' e r => q J F' H' e (r.up e.fh)
  | exc x => rw [hm] at q; exact q
  | bad => rw [hm] at q; exact q
theorem gI {K : PySem.W.Frag} {σ : St} (Q : It → Hp → Prop) : GO C K W σ (fun F H r => PostI C K W σ F H r Q) := by
  refine ⟨fun F H F1 H1 x e h => ?_, fun _ _ _ h => h, fun _ _ h => h⟩
  cases x with
  | ok x => exact fun J F' H' y => h J F' H' (e.trans y)
  | exc x => exact Wish.up h e
  | bad => exact h
theorem gIS {K : PySem.W.Frag} {σ : St} (Q : It → Hp → Prop) : GO C K W σ (fun F H r => PostIS C K W σ F H r Q) := by
  refine ⟨fun F H F1 H1 x e h => ?_, fun _ _ _ h => h, fun _ _ h => h⟩
  cases x with
  | ok x => exact fun J F' H' y => h J F' H' (e.trans y)
  | exc x => exact Wish.up h e
  | bad => exact h
def itemsD : D → R (List D)
  | .lst ds => .ok ds
  | .tup ds => .ok ds
  | .str s => .ok (s.cps.toList.map fun c => .str ⟨#[c]⟩)
  | _ => .bad
theorem walk_lst {K : PySem.W.Frag} {B F : Hp} {a : Addr} {vs : List V} {ds : List D} (h : B a = some (.lst vs)) (r : RpA K F vs ds) : Walk K (Itl K a) B F ds := by
  intro i H' e
  have hs : H' a = some (.lst vs) := e _ _ h
  refine ⟨fun d hd => ?_, fun hl => ⟨vs, SqL.of hs, by rw [r.len]; exact hl⟩⟩
  obtain ⟨v, hv, rv⟩ := r.getD hd
  refine ⟨⟨vs, v, SqL.of hs, hv⟩, fun x H'' y => ⟨y.1, ?_⟩⟩
  have hx := y.2 vs (SqL.of hs)
  rw [hv] at hx
  cases hx
  exact rv
theorem walk_tup {K : PySem.W.Frag} {B F : Hp} {a : Addr} {vs : List V} {ds : List D} (h : B a = some (.tup vs)) (r : RpA K F vs ds) : Walk K (Itt K a) B F ds := by
  intro i H' e
  have hs : H' a = some (.tup vs) := e _ _ h
  refine ⟨fun d hd => ?_, fun hl => ⟨vs, SqT.of hs, by rw [r.len]; exact hl⟩⟩
  obtain ⟨v, hv, rv⟩ := r.getD hd
  refine ⟨⟨vs, v, SqT.of hs, hv⟩, fun x H'' y => ⟨y.1, ?_⟩⟩
  have hx := y.2 vs (SqT.of hs)
  rw [hv] at hx
  cases hx
  exact rv
theorem walk_str {K : PySem.W.Frag} {B F : Hp} {s : Str} : Walk K (Its s) B F (s.cps.toList.map fun c => .str ⟨#[c]⟩) := by
  intro i H' e
  refine ⟨fun d hd => ?_, fun hl => (show s.cps.size ≤ i by simpa using hl)⟩
  rw [List.getElem?_map] at hd
  cases q : s.cps.toList[i]? with
  | none => rw [q] at hd; cases hd
  | some c =>
    rw [q] at hd
    cases hd
    have q' : s.cps[i]? = some c := by simpa using q
    refine ⟨(Array.getElem?_eq_some_iff.mp q').1, fun x H'' y => ?_⟩
    obtain ⟨h1, k, h2, h3⟩ := y
    rw [q'] at h2
    cases h2
    exact ⟨h1, by rw [h3]; exact .str _⟩
def mItems (ma : List Sl → R D) (S : List Sl) : R (List D) := (ma S).bind itemsD
theorem di_seq {ma : List Sl → R D} (ha : DR C X W a ma) : DI C X W tg a (mItems ma) := by
  obtain ⟨ta, pa, ka⟩ := ha.ex
  refine .of ⟨_, pi_or2 (pi_list pa) (pi_or2 (pi_tup pa) (pi_str pa)), fun F0 H0 F H σ S o Q q => ?_⟩
  cases hm : ma S with
  | ok x =>
    have q0 : PostV C X.K W σ F H (ma S) fun v H1 => ∃ F1, Ext F H F1 H1 ∧ Vw X.K F1 H1 v x ∧ PostI C X.K W σ F1 H1 (itemsD x) Q :=
      PostV.toq (gI Q) q fun y v F1 H1 ey e1 w1 q1 => by rw [hm] at ey; cases ey; exact ⟨F1, e1, w1, q1⟩
    cases x with
    | lst ds =>
      refine .inl (ka _ _ _ _ _ _ o _ (hm ▸ ?_))
      rw [hm] at q0
      intro v F1 H1 e1 w1
      obtain ⟨F2, e2, w2, q2⟩ := q0 v F1 H1 e1 w1
      obtain ⟨a, vs, rfl, ha, ra⟩ := w2.isLst e2.fh
      exact ⟨a, rfl, ⟨vs, SqL.of ha⟩, q2 _ F2 H1 (Ext.refl e2.fh) (walk_lst ha ra)⟩
    | tup ds =>
      refine .inr (.inl (ka _ _ _ _ _ _ o _ (hm ▸ ?_)))
      rw [hm] at q0
      intro v F1 H1 e1 w1
      obtain ⟨F2, e2, w2, q2⟩ := q0 v F1 H1 e1 w1
      obtain ⟨a, vs, rfl, ha, ra⟩ := w2.isTup
      exact ⟨a, rfl, ⟨vs, SqT.of (e2.fh _ _ ha)⟩, q2 _ F2 H1 (Ext.refl e2.fh) (walk_tup (e2.fh _ _ ha) ra)⟩
    | str s =>
      refine .inr (.inr (ka _ _ _ _ _ _ o _ (hm ▸ ?_)))
      rw [hm] at q0
      intro v F1 H1 e1 w1
      obtain ⟨F2, e2, w2, q2⟩ := q0 v F1 H1 e1 w1
      cases w2.isStr
      exact ⟨s, rfl, q2 _ F2 H1 (Ext.refl e2.fh) walk_str⟩
    | _ => unfold mItems at q; rw [hm] at q; exact q.elim
  | exc x =>
    unfold mItems at q
    rw [hm] at q
    exact .inl (ka _ _ _ _ _ _ o _ (by rw [hm]; exact q))
  | bad => unfold mItems at q; rw [hm] at q; exact q.elim
theorem dis_seq {ma : List Sl → R D} (ha : DE C X W a ma) : DIS C X W tg a (mItems ma) := by
  obtain ⟨ta, pa, ka⟩ := ha.ex
  refine .of ⟨_, pi_or2 (pi_list pa) (pi_or2 (pi_tup pa) (pi_str pa)), fun F0 H0 F H σ S o Q q => ?_⟩
  cases hm : ma S with
  | ok x =>
    have q0 : Post C X.K W σ F H (ma S) fun v H1 => ∃ F1, Ext F H F1 H1 ∧ Rp X.K F1 v x ∧ PostIS C X.K W σ F1 H1 (itemsD x) Q :=
      Post.toq (gIS Q) q fun y v F1 H1 ey e1 w1 q1 => by rw [hm] at ey; cases ey; exact ⟨F1, e1, w1, q1⟩
    cases x with
    | lst ds =>
      refine .inl (ka _ _ _ _ _ _ o _ (hm ▸ ?_))
      rw [hm] at q0
      intro v F1 H1 e1 w1
      obtain ⟨F2, e2, w2, q2⟩ := q0 v F1 H1 e1 w1
      cases w2 with
      | lst ha ra => exact ⟨_, rfl, ⟨_, SqL.of (e2.fh _ _ ha)⟩, q2 _ F2 H1 (Ext.refl e2.fh) (walk_lst ha ra)⟩
    | tup ds =>
      refine .inr (.inl (ka _ _ _ _ _ _ o _ (hm ▸ ?_)))
      rw [hm] at q0
      intro v F1 H1 e1 w1
      obtain ⟨F2, e2, w2, q2⟩ := q0 v F1 H1 e1 w1
      cases w2 with
      | tup ha ra => exact ⟨_, rfl, ⟨_, SqT.of (e2.fh _ _ ha)⟩, q2 _ F2 H1 (Ext.refl e2.fh) (walk_tup ha ra)⟩
    | str s =>
      refine .inr (.inr (ka _ _ _ _ _ _ o _ (hm ▸ ?_)))
      rw [hm] at q0
      intro v F1 H1 e1 w1
      obtain ⟨F2, e2, w2, q2⟩ := q0 v F1 H1 e1 w1
      cases w2
      exact ⟨s, rfl, q2 _ F2 H1 (Ext.refl e2.fh) walk_str⟩
    | _ => unfold mItems at q; rw [hm] at q; exact q.elim
  | exc x =>
    unfold mItems at q
    rw [hm] at q
    exact .inl (ka _ _ _ _ _ _ o _ (by rw [hm]; exact q))
  | bad => unfold mItems at q; rw [hm] at q; exact q.elim
/-! range(..) -/
def rangeL (lo : Int) (n : Nat) (c : Int) : List D := (List.range n).map fun (k : Nat) => .int (lo + (k : Int) * c)
def rng1 : List D → R (List D)
  | [.int n] => if -(2 ^ 62) ≤ n ∧ n < 2 ^ 62 then .ok (rangeL 0 n.toNat 1) else .bad
  | _ => .bad
def rng2 : List D → R (List D)
  | [.int i, .int j] => if -(2 ^ 62) ≤ i ∧ i < 2 ^ 62 ∧ -(2 ^ 62) ≤ j ∧ j < 2 ^ 62 then .ok (rangeL i (j - i).toNat 1) else .bad
  | _ => .bad
def rng3 : List D → R (List D)
  | [.int i, .int j, .int c] => if -(2 ^ 62) ≤ i ∧ i < 2 ^ 62 ∧ -(2 ^ 62) ≤ j ∧ j < 2 ^ 62 ∧ c = -1 then .ok (rangeL i (i - j).toNat (-1)) else .bad
  | _ => .bad
theorem range_at {lo c : Int} {n i : Nat} {d : D} (h : (rangeL lo n c)[i]? = some d) : i < n ∧ d = .int (lo + (i : Int) * c) := by
  unfold rangeL at h
  rw [List.getElem?_map] at h
  cases q : (List.range n)[i]? with
  | none => rw [q] at h; cases h
  | some k =>
    rw [q] at h
    cases h
    obtain ⟨h1, h2⟩ := List.getElem?_eq_some_iff.mp q
    rw [List.length_range] at h1
    rw [List.getElem_range] at h2
    exact ⟨h1, by rw [h2]⟩
theorem range_len {lo c : Int} {n : Nat} : (rangeL lo n c).length = n := by simp [rangeL]
theorem walk_range {K : PySem.W.Frag} {B F : Hp} {lo : Int} {n : Nat} : Walk K (Itr lo n) B F (rangeL lo n 1) := by
  intro i H' e
  refine ⟨fun d hd => ?_, fun hl => by rw [range_len] at hl; exact hl⟩
  obtain ⟨h1, h2⟩ := range_at hd
  refine ⟨h1, fun x H'' y => ⟨y.1, ?_⟩⟩
  rw [y.2, h2, Int.mul_one]
  exact .int _
theorem walk_rangeC {K : PySem.W.Frag} {B F : Hp} {lo c : Int} {n : Nat} : Walk K (Itc lo c n) B F (rangeL lo n c) := by
  intro i H' e
  refine ⟨fun d hd => ?_, fun hl => by rw [range_len] at hl; exact hl⟩
  obtain ⟨h1, h2⟩ := range_at hd
  refine ⟨h1, fun x H'' y => ⟨y.1, ?_⟩⟩
  rw [y.2, h2]
  exact .int _
theorem dis_range1 {m : List Sl → R (List D)} (hg : Gl X "range") (hm : X.mg "range" = none) (ha : DA C X W [a] m) (hs : starEach [a] X.env = [(false, eval a X.env)] := by rfl) : DIS C X W tg (.Call (.Name "range" p) [a] [] pos) (fun S => (m S).bind rng1) := by
  obtain ⟨ta, pa, ka⟩ := ha.ex
  refine .of ⟨_, pi_range1 hg hm pa hs, fun F0 H0 F H σ S o Q q => ?_⟩
  refine ka _ _ _ _ _ _ o _ (PostA.to (gIS Q) q fun xs vs F1 H1 e1 w1 q1 => ?_)
  unfold rng1 at q1
  split at q1
  · rename_i n
    obtain ⟨v, ev, wv⟩ := w1.c1
    cases wv.isInt
    split at q1
    · rename_i c
      exact ⟨n, ev, c.1, c.2, q1 _ F1 H1 (Ext.refl e1.fh) walk_range⟩
    · exact q1.elim
  · exact q1.elim
theorem dis_range2 {m : List Sl → R (List D)} (hg : Gl X "range") (hm : X.mg "range" = none) (ha : DA C X W [a, b] m) (hs : starEach [a, b] X.env = [(false, eval a X.env), (false, eval b X.env)] := by rfl) (hs2 : starEach [b] X.env = [(false, eval b X.env)] := by rfl) :
    DIS C X W tg (.Call (.Name "range" p) [a, b] [] pos) (fun S => (m S).bind rng2) := by
  obtain ⟨ta, pa, ka⟩ := ha.ex
  refine .of ⟨_, pi_range2 hg hm pa hs hs2, fun F0 H0 F H σ S o Q q => ?_⟩
  refine ka _ _ _ _ _ _ o _ (PostA.to (gIS Q) q fun xs vs F1 H1 e1 w1 q1 => ?_)
  unfold rng2 at q1
  split at q1
  · rename_i i j
    obtain ⟨v, u, ev, wv, wu⟩ := w1.c2
    cases wv.isInt
    cases wu.isInt
    split at q1
    · rename_i c
      exact ⟨i, j, ev, c, q1 _ F1 H1 (Ext.refl e1.fh) walk_range⟩
    · exact q1.elim
  · exact q1.elim
theorem dis_range3 {m : List Sl → R (List D)} (hg : Gl X "range") (hm : X.mg "range" = none) (ha : DA C X W [a, b, c] m) (hs : starEach [a, b, c] X.env = (false, eval a X.env) :: starEach [b, c] X.env := by rfl) (hpl : (backTo pos (starEach [b, c] X.env)).any (·.1) = false := by rfl) :
    DIS C X W tg (.Call (.Name "range" p) [a, b, c] [] pos) (fun S => (m S).bind rng3) := by
  obtain ⟨ta, pa, ka⟩ := ha.ex
  refine .of ⟨_, pi_range3 hg hm pa hs hpl, fun F0 H0 F H σ S o Q q => ?_⟩
  refine ka _ _ _ _ _ _ o _ (PostA.to (gIS Q) q fun xs vs F1 H1 e1 w1 q1 => ?_)
  unfold rng3 at q1
  split at q1
  · rename_i i j k
    cases w1 with
    | cons w1 w2 =>
      obtain ⟨v, u, ev, wv, wu⟩ := w2.c2
      subst ev
      cases w1.isInt
      cases wv.isInt
      cases wu.isInt
      split at q1
      · rename_i c
        obtain ⟨c1, c2, c3, c4, c5⟩ := c
        subst c5
        exact ⟨i, j, -1, _, rfl, RgC.neg c1 c2 c3 c4, q1 _ F1 H1 (Ext.refl e1.fh) walk_rangeC⟩
      · exact q1.elim
  · exact q1.elim
/-! reversed(..) of a list -/
def revI : List D → R (List D)
  | [.lst ds] => .ok ds.reverse
  | _ => .bad
theorem walk_rev {K : PySem.W.Frag} {B F : Hp} {a : Addr} {vs : List V} {ds : List D} (h : B a = some (.lst vs)) (r : RpA K F vs ds) : Walk K (Itv K a vs.length) B F ds.reverse := by
  intro i H' e
  have hs : H' a = some (.lst vs) := e _ _ h
  refine ⟨fun d hd => ?_, fun hl => by rw [List.length_reverse, ← r.len] at hl; exact hl⟩
  have hi : i < ds.length := by have := (List.getElem?_eq_some_iff.mp hd).1; simpa using this
  rw [List.getElem?_reverse hi] at hd
  obtain ⟨v, hv, rv⟩ := r.getD hd
  rw [← r.len] at hv
  refine ⟨⟨by rw [r.len]; exact hi, vs, v, SqL.of hs, hv⟩, fun x H'' y => ⟨y.1, ?_⟩⟩
  have hx := y.2 vs (SqL.of hs)
  rw [hv] at hx
  cases hx
  exact rv
theorem dis_rev {m : List Sl → R (List D)} (hg : Gl X "reversed") (hm : X.mg "reversed" = none) (ha : DAR C X W [a] m) (hs : starEach [a] X.env = [(false, eval a X.env)] := by rfl) : DIS C X W tg (.Call (.Name "reversed" p) [a] [] pos) (fun S => (m S).bind revI) := by
  obtain ⟨ta, pa, ka⟩ := ha.ex
  refine .of ⟨_, pi_reversed hg hm pa hs, fun F0 H0 F H σ S o Q q => ?_⟩
  refine ka _ _ _ _ _ _ o _ (PostAR.to (gIS Q) q fun xs vs F1 H1 e1 w1 q1 => ?_)
  unfold revI at q1
  split at q1
  · rename_i ds
    cases w1 with
    | cons w1 w2 =>
      cases w2
      cases w1 with
      | lst ha ra => exact ⟨_, _, rfl, SqL.of (e1.fh _ _ ha), q1 _ F1 H1 (Ext.refl e1.fh) (walk_rev ha ra)⟩
  · exact q1.elim
end

/-! ### targets -/
inductive Tg where
  | one (j : Nat) | two (i j : Nat)
def Tg.g (K : PySem.W.Frag) : Tg → TG
  | .one j => gName j
  | .two i j => gTup K 2 (gCons (gName i) (gCons (gName j) gNil))
def Tg.slots : Tg → List Nat
  | .one j => [j]
  | .two i j => [i, j]
def pair? : D → Option (D × D)
  | .tup [x, y] => some (x, y)
  | _ => none
theorem pair_eq {d x y : D} (h : pair? d = some (x, y)) : d = .tup [x, y] := by
  unfold pair? at h
  split at h
  · cases h; rfl
  · cases h
def Tg.put : Tg → D → List Sl → R (List Sl)
  | .one j, d, S => .ok (S.set j (.fz d))
  | .two i j, d, S => match pair? d with
    | some (x, y) => .ok ((S.set i (.fz x)).set j (.fz y))
    | none => .bad
theorem wipe_set {σ : St} {v : Option V} {j : Nat} : ∀ {vs : List Nat}, j ∈ vs → wipe (σ.set j v) vs = wipe σ vs
  | [], h => by simp at h
  | k :: vs, h => by
    by_cases c : j ∈ vs
    · show (wipe (σ.set j v) vs).set k none = (wipe σ vs).set k none
      rw [wipe_set c]
    · have e : j = k := by
        rcases List.mem_cons.mp h with e | e
        · exact e
        · exact absurd e c
      subst e
      show (wipe (σ.set j v) vs).set j none = (wipe σ vs).set j none
      have q : ∀ (ws : List Nat) (τ : St), j ∉ ws → wipe (τ.set j v) ws = (wipe τ ws).set j v := by
        intro ws
        induction ws with
        | nil => intro τ _; rfl
        | cons w ws ih =>
          intro τ hn
          have h1 : j ≠ w := fun z => hn (by rw [z]; exact List.mem_cons_self)
          have h2 : j ∉ ws := fun z => hn (List.mem_cons_of_mem _ z)
          show (wipe (τ.set j v) ws).set w none = ((wipe τ ws).set w none).set j v
          rw [ih τ h2, List.set_comm _ _ h1]
      rw [q vs σ c, List.set_set]
theorem Tg.run {K : PySem.W.Frag} {F0 H0 F H : Hp} {σ : St} {S S' : List Sl} {t : Tg} {v : V} {d : D} (o : Ok K F0 H0 F H σ S) (r : Rp K F v d) (hp : t.put d S = .ok S') {Q : St → Hp → Prop}
    (k : ∀ σ', Ok K F0 H0 F H σ' S' → (∀ vs : List Nat, (∀ j ∈ t.slots, j ∈ vs) → wipe σ' vs = wipe σ vs) → Q σ' H) : t.g K v σ H Q := by
  cases t with
  | one j =>
    cases hp
    exact k _ (o.set (s := .fz d) rfl ⟨v, rfl, r⟩) fun vs hv => wipe_set (hv j (by simp [Tg.slots]))
  | two i j =>
    simp only [Tg.put] at hp
    cases hq : pair? d with
    | none => rw [hq] at hp; cases hp
    | some xy =>
      obtain ⟨x, y⟩ := xy
      rw [hq] at hp
      cases hp
      have ed := pair_eq hq
      subst ed
      cases r with
      | tup ha ra =>
        cases ra with
        | cons r1 r2 =>
          cases r2 with
          | cons r2 r3 =>
            cases r3
            refine ⟨_, _, rfl, SqT.of (o.sub _ _ ha), rfl, _, _, rfl, _, _, rfl, rfl, ?_⟩
            refine k _ ((o.set (s := .fz x) rfl ⟨_, rfl, r1⟩).set (s := .fz y) rfl ⟨_, rfl, r2⟩) fun vs hv => ?_
            rw [wipe_set (hv _ (by simp [Tg.slots])), wipe_set (hv _ (by simp [Tg.slots]))]
/-! ### list comprehensions -/
def wipeS (S : List Sl) : List Nat → List Sl
  | [] => S
  | v :: vs => (wipeS S vs).set v .un
theorem Ok.wipe {K : PySem.W.Frag} {F0 H0 F H : Hp} {σ : St} {S : List Sl} (o : Ok K F0 H0 F H σ S) : ∀ vs : List Nat, Ok K F0 H0 F H (wipe σ vs) (wipeS S vs)
  | [] => o
  | v :: vs => (Ok.wipe o vs).set rfl trivial
def lcM (t : Tg) (c : List Sl → R Bool) (m : List Sl → R D) (S : List Sl) : List D → R (List D)
  | [] => .ok []
  | d :: ds => (t.put d S).bind fun S1 => (c S1).calm.bind fun b => if b = true then (m S1).calm.bind fun y => (lcM t c m S ds).bind fun ys => .ok (y :: ys) else lcM t c m S ds
theorem calm_ok {α : Type} {r : R α} {x : α} (h : r.calm = .ok x) : r = .ok x := by
  cases r with
  | ok y => exact h
  | exc e => cases h
  | bad => cases h
theorem bind_ok {α β : Type} {r : R α} {f : α → R β} {y : β} (h : r.bind f = .ok y) : ∃ x, r = .ok x ∧ f x = .ok y := by
  cases r with
  | ok x => exact ⟨x, rfl, h⟩
  | exc e => cases h
  | bad => cases h
/-- W0: within a comprehension nothing is raised -/
abbrev W0 : WX := fun _ _ _ _ => False
def mYes (_ : List Sl) : R Bool := .ok true
structure DTs (C : CL) (X : Cx) (W : WX) (ifs : List Expr) (m : List Sl → R Bool) : Prop where
  run : PTs X ifs (cT C X.K W m)
def mLc (t : Tg) (vs : List Nat) (mi : List Sl → R (List D)) (c : List Sl → R Bool) (m : List Sl → R D) (S : List Sl) : R (List D) := (mi S).bind fun ds => if ds.length ≤ sizeLine then (match lcM t c m (wipeS S vs) ds with | .ok ys => .ok ys | _ => .bad) else .bad
/-- what is made so far -/
theorem lc_run {C : CL} {K : PySem.W.Frag} {t : Tg} {c : List Sl → R Bool} {m : List Sl → R D} {vs : List Nat} {J : It} {F0 H0 F1 H1 : Hp} {σ : St} {S : List Sl} {ds ys : List D} {Dl : Addr} {Q : Hp → Prop}
    (o : Ok K F0 H0 F1 H1 σ S) (w : Walk K J H1 F1 ds) (hl : ds.length ≤ sizeLine) (hd : H1 Dl = none) (hv : ∀ j ∈ t.slots, j ∈ vs) (hm : lcM t c m (wipeS S vs) ds = .ok ys)
    (q : ∀ F' H' ws, Ext F1 H1 F' H' → F' Dl = none → H' Dl = some (.lst ws) → RpA K F' ws ys → Q H') :
    ∃ Wm : Nat → Nat → Hp → Prop, (∃ n, Wm 0 n (upd H1 Dl (.lst []))) ∧ ∀ i n H, Wm i n H →
      (J.stop i H ∧ Q H) ∨ (J.go i H ∧ ∃ Nx : Hp → Prop, (∀ H', Nx H' → ∃ n', n' < n ∧ Wm (i + 1) n' H') ∧ ∀ x H', J.yld i H x H' → t.g K x (wipe σ vs) H' fun σ2 H2 => wipe σ2 vs = wipe σ vs ∧ cT C K W0 c σ2 H2 fun b H3 =>
        if b = true then cE C K W0 m σ2 H3 fun y H4 => ∃ acc, H4 Dl = some (.lst acc) ∧ acc.length < sizeLine ∧ Nx (upd H4 Dl (.lst (acc ++ [y]))) else Nx H3) := by
  refine ⟨fun i n H => n = ds.length - i ∧ i ≤ ds.length ∧ ∃ F ws done rest, Ext F1 H1 F H ∧ F Dl = none ∧ H Dl = some (.lst ws) ∧ RpA K F ws done ∧ ws.length ≤ i ∧ lcM t c m (wipeS S vs) (ds.drop i) = .ok rest ∧ ys = done ++ rest, ⟨ds.length, rfl, Nat.zero_le _, F1, [], [], ys, Ext.newO o.sub hd, none_of o.sub hd, upd_same, .nil, Nat.le_refl _, by simpa using hm, rfl⟩, ?_⟩
  rintro i n H ⟨rfl, hi, F, ws, done, rest, e, fd, hw, ra, hwl, hr, hy⟩
  obtain ⟨w1, w2⟩ := w i H e.hh
  by_cases hlt : i < ds.length
  · have hd1 : ds[i]? = some ds[i] := List.getElem?_eq_getElem hlt
    obtain ⟨g1, g2⟩ := w1 _ hd1
    refine .inr ⟨g1, fun H' => ∃ F ws done rest, Ext F1 H1 F H' ∧ F Dl = none ∧ H' Dl = some (.lst ws) ∧ RpA K F ws done ∧ ws.length ≤ i + 1 ∧ lcM t c m (wipeS S vs) (ds.drop (i + 1)) = .ok rest ∧ ys = done ++ rest, fun H' h => ⟨ds.length - (i + 1), by omega, rfl, hlt, h⟩, fun x H' y => ?_⟩
    obtain ⟨eH, rx⟩ := g2 x H' y
    subst eH
    rw [List.drop_eq_getElem_cons hlt] at hr
    unfold lcM at hr
    obtain ⟨S1, p1, hr⟩ := bind_ok hr
    refine Tg.run (((o.up e).wipe vs)) (rx.up e.ff) p1 fun σ2 o2 hwp => ⟨?_, ?_⟩
    · have z := hwp vs hv
      have zz : ∀ us : List Nat, (∀ j ∈ us, j ∈ vs) → wipe (wipe σ us) vs = wipe σ vs := by
        intro us
        induction us with
        | nil => intro _; rfl
        | cons u us ih =>
          intro hu
          show wipe ((wipe σ us).set u none) vs = wipe σ vs
          rw [wipe_set (hu u List.mem_cons_self), ih fun j hj => hu j (List.mem_cons_of_mem _ hj)]
      rw [z, zz vs fun j hj => hj]
    · obtain ⟨b, hb, hr⟩ := bind_ok hr
      refine ⟨_, _, _, S1, o2, ?_⟩
      rw [calm_ok hb]
      intro F3 H3 e3
      cases b with
      | true =>
        rw [if_pos rfl] at hr
        show cE C K W0 m σ2 H3 _
        obtain ⟨yd, hyd, hr⟩ := bind_ok hr
        obtain ⟨rest', hr1, hr2⟩ := bind_ok hr
        cases hr2
        refine ⟨_, _, _, S1, o2.up e3, ?_⟩
        rw [calm_ok hyd]
        intro v F4 H4 e4 rv
        have e14 : Ext F1 H1 F4 H4 := (e.trans e3).trans e4
        have h4 : H4 Dl = some (.lst ws) := e4.hh _ _ (e3.hh _ _ hw)
        have f4 : F4 Dl = none := (e4.old Dl _ (e3.hh _ _ hw)).trans ((e3.old Dl _ hw).trans fd)
        refine ⟨ws, h4, by omega, F4, ws ++ [v], done ++ [yd], rest', ?_, f4, upd_same, ((ra.up e3.ff).up e4.ff).app (.one rv), by simp; omega, hr1, by rw [hy]; simp⟩
        refine ⟨e14.ff, fun a u ha => ?_, fun a u ha => ?_, e14.old⟩
        · have na : a ≠ Dl := fun z => by rw [z, f4] at ha; cases ha
          rw [upd_ne na]; exact e14.fh _ _ ha
        · have na : a ≠ Dl := fun z => by rw [z, hd] at ha; cases ha
          rw [upd_ne na]; exact e14.hh _ _ ha
      | false =>
        rw [if_neg Bool.false_ne_true] at hr
        rw [if_neg Bool.false_ne_true]
        exact ⟨F3, ws, done, rest, e.trans e3, (e3.old Dl _ hw).trans fd, e3.hh _ _ hw, ra.up e3.ff, by omega, hr, hy⟩
  · have ei : i = ds.length := by omega
    subst ei
    rw [List.drop_length] at hr
    cases hr
    rw [List.append_nil] at hy
    subst hy
    exact .inl ⟨w2 (Nat.le_refl _), q F H ws e fd hw ra⟩
section
variable {C : CL} {X : Cx} {W : WX} {tg e iter elt : Expr} {ifs : List Expr} {pos : Pos}
theorem dts_nil : DTs C X W [] mYes := ⟨⟨fun pins s σ H Q I ⟨F0, H0, F, S, o, q⟩ => pts_nil.run pins s σ H Q I (q F H (Ext.refl o.sub))⟩⟩
theorem dts_one {c : Expr} {m : List Sl → R Bool} (h : DT C X W c m) : DTs C X W [c] m := ⟨pts_one h.run⟩
theorem dn_lc {scope : Scope} {own : List (Str × Nat)} {t : Tg} {mi : List Sl → R (List D)} {c : List Sl → R Bool} {m : List Sl → R D} (hc : X.calm = true) (hN : X.N.Nodup) (hi : DI C X W tg iter mi) (ok : blkC X.N X.env.scope scope own = true)
    (hv : ∀ j ∈ t.slots, j ∈ own.map (·.2))
    (hg : ∀ (s : Shared) (H : Hp) (Ca : Addr) (cl : List (Str × Addr)) (fp : List Addr), PG (X.blk s H scope (compEnvC scope cl Ca X.env) fp) tg (t.g X.K))
    (ht : ∀ (s : Shared) (H : Hp) (Ca : Addr) (cl : List (Str × Addr)) (fp : List Addr), DTs C (X.blk s H scope (compEnvC scope cl Ca X.env) fp) W0 ifs c)
    (he : ∀ (s : Shared) (H : Hp) (Ca : Addr) (cl : List (Str × Addr)) (fp : List Addr), DE C (X.blk s H scope (compEnvC scope cl Ca X.env) fp) W0 elt m) (hs : ∀ x, foldedSetIterable iter X.env x = pure x := by intro _; rfl) :
    DN C X W (.ListComp elt [⟨tg, iter, ifs, 0⟩] scope pos) (mLc t (own.map (·.2)) mi c m) := by
  obtain ⟨ti, pi, ki⟩ := hi.ex
  refine .of ⟨_, pe_lc (te := cE C X.K W0 m) (tt := cT C X.K W0 c) hc hN pi (blkOk_by ok) hg (fun s H Ca cl fp => (ht s H Ca cl fp).run) (fun s H Ca cl fp => (he s H Ca cl fp).run) hs, fun F0 H0 F H σ S o Q q => ?_⟩
  refine ki _ _ _ _ _ _ o _ ?_
  unfold mLc at q
  cases hm : mi S with
  | ok ds =>
    rw [hm] at q
    intro J F1 H1 e1 w1 Dl hd
    simp only [R.bind_ok] at q
    by_cases hl : ds.length ≤ sizeLine
    · rw [if_pos hl] at q
      cases hlc : lcM t c m (wipeS S (own.map (·.2))) ds with
      | ok ys =>
        rw [hlc] at q
        exact lc_run (o.up e1) w1 hl hd hv hlc fun F' H' ws e2 fd hw ra => q Dl ws F' H' (e1.trans e2) (e1.hh.free hd) fd hw ra
      | exc x => rw [hlc] at q; exact q.elim
      | bad => rw [hlc] at q; exact q.elim
    · rw [if_neg hl] at q; exact q.elim
  | exc x => rw [hm] at q; exact q
  | bad => rw [hm] at q; exact q.elim
end
end DL
/-! The data layer, part F: statements, defs. -/
namespace DL
open PySem L2
open PyProof.Rows (envOfC)

inductive SO where
  | nx (S : List Sl) | rt (d : D) | bk (S : List Sl) | ct (S : List Sl) | ex (e : Exn) (S : List Sl) | bad
def PostS (C : CL) (K : PySem.W.Frag) (W : WX) (F0 H0 : Hp) (r : SO) (E : Ends) : Prop := match r with
  | .nx S => ∀ σ F H, Ok K F0 H0 F H σ S → E.nx σ H
  | .rt d => ∀ v F H, Ext F0 H0 F H → Rp K F v d → E.rt v H
  | .bk S => ∀ σ F H, Ok K F0 H0 F H σ S → E.bk σ H
  | .ct S => ∀ σ F H, Ok K F0 H0 F H σ S → E.ct σ H
  | .ex e S => ∀ σ F H, Ok K F0 H0 F H σ S → Wish C W σ F H e
  | .bad => False
def cS (C : CL) (K : PySem.W.Frag) (W : WX) (m : List Sl → SO) : TS := fun E σ H => ∃ F0 H0 F S, Ok K F0 H0 F H σ S ∧ PostS C K W F0 H0 (m S) E
structure DS (C : CL) (X : Cx) (W : WX) (st : Stmt) (m : List Sl → SO) : Prop where
  run : PS X st (cS C X.K W m)
structure DSs (C : CL) (X : Cx) (W : WX) (st : List Stmt) (m : List Sl → SO) : Prop where
  run : PSs X st (cS C X.K W m)
section
variable {C : CL} {X : Cx} {W : WX} {st : Stmt} {sts : List Stmt}
theorem DS.of {m : List Sl → SO} (h : ∃ t, PS X st t ∧ ∀ F0 H0 F H σ S, Ok X.K F0 H0 F H σ S → ∀ E, PostS C X.K W F0 H0 (m S) E → t E σ H) : DS C X W st m := by
  obtain ⟨t, p, k⟩ := h
  exact ⟨⟨fun pins s σ H E I ⟨F0, H0, F, S, o, q⟩ => p.run pins s σ H E I (k F0 H0 F H σ S o E q)⟩⟩
theorem DSs.of {m : List Sl → SO} (h : ∃ t, PSs X sts t ∧ ∀ F0 H0 F H σ S, Ok X.K F0 H0 F H σ S → ∀ E, PostS C X.K W F0 H0 (m S) E → t E σ H) : DSs C X W sts m := by
  obtain ⟨t, p, k⟩ := h
  exact ⟨⟨fun pins s σ H E I ⟨F0, H0, F, S, o, q⟩ => p.run pins s σ H E I (k F0 H0 F H σ S o E q)⟩⟩
end
/-- what an expression gives, into a statement's end -/
def toS (r : R D) (S : List Sl) (k : D → SO) : SO := match r with
  | .ok d => k d
  | .exc e => .ex e S
  | .bad => .bad
def toSL {α : Type} (r : R α) (S : List Sl) (k : α → SO) : SO := match r with
  | .ok d => k d
  | .exc e => .ex e S
  | .bad => .bad
@[simp] theorem toS_ok (d : D) (S : List Sl) (k : D → SO) : toS (.ok d) S k = k d := id rfl
@[simp] theorem toS_exc (e : Exn) (S : List Sl) (k : D → SO) : toS (.exc e) S k = .ex e S := id rfl
@[simp] theorem toSL_ok {α : Type} (d : α) (S : List Sl) (k : α → SO) : toSL (.ok d) S k = k d := id rfl
@[simp] theorem toSL_exc {α : Type} (e : Exn) (S : List Sl) (k : α → SO) : toSL (.exc e) S k = .ex e S := id rfl
section
variable {C : CL} {K : PySem.W.Frag} {W : WX} {F0 H0 F H : Hp} {σ : St} {S : List Sl} {E : Ends}
theorem Post.ofS {r : R D} {k : D → SO} {Q : VK} (o : Ok K F0 H0 F H σ S) (h : PostS C K W F0 H0 (toS r S k) E) (f : ∀ d v F1 H1, Ext F H F1 H1 → Ok K F0 H0 F1 H1 σ S → Rp K F1 v d → PostS C K W F0 H0 (k d) E → Q v H1) : Post C K W σ F H r Q := by
  cases r with
  | ok d => exact fun v F1 H1 e r => f d v F1 H1 e (o.up e) r h
  | exc e => exact h σ F H o
  | bad => exact h
theorem PostV.ofS {r : R D} {k : D → SO} {Q : VK} (o : Ok K F0 H0 F H σ S) (h : PostS C K W F0 H0 (toS r S k) E) (f : ∀ d v F1 H1, Ext F H F1 H1 → Ok K F0 H0 F1 H1 σ S → Vw K F1 H1 v d → PostS C K W F0 H0 (k d) E → Q v H1) : PostV C K W σ F H r Q := by
  cases r with
  | ok d => exact fun v F1 H1 e r => f d v F1 H1 e (o.up e) r h
  | exc e => exact h σ F H o
  | bad => exact h
theorem PostT.ofS {r : R Bool} {k : Bool → SO} {Q : Bool → Hp → Prop} (o : Ok K F0 H0 F H σ S) (h : PostS C K W F0 H0 (toSL r S k) E) (f : ∀ b F1 H1, Ext F H F1 H1 → Ok K F0 H0 F1 H1 σ S → PostS C K W F0 H0 (k b) E → Q b H1) : PostT C K W σ F H r Q := by
  cases r with
  | ok d => exact fun F1 H1 e => f d F1 H1 e (o.up e) h
  | exc e => exact h σ F H o
  | bad => exact h
theorem PostN.ofS {r : R (List D)} {k : List D → SO} {Q : VK} (o : Ok K F0 H0 F H σ S) (h : PostS C K W F0 H0 (toSL r S k) E) (f : ∀ ds p vs F1 H1, Ext F H F1 H1 → Ok K F0 H0 F1 H1 σ S → H p = none → F1 p = none → H1 p = some (.lst vs) → RpA K F1 vs ds → PostS C K W F0 H0 (k ds) E → Q (.ref p) H1) : PostN C K W σ F H r Q := by
  cases r with
  | ok d => exact fun p vs F1 H1 e h0 hf hp ra => f d p vs F1 H1 e (o.up e) h0 hf hp ra h
  | exc e => exact h σ F H o
  | bad => exact h
theorem PostND.ofS {r : R (List (Int × D))} {k : List (Int × D) → SO} {Q : VK} (o : Ok K F0 H0 F H σ S) (h : PostS C K W F0 H0 (toSL r S k) E) (f : ∀ ds p vs F1 H1, Ext F H F1 H1 → Ok K F0 H0 F1 H1 σ S → H p = none → F1 p = none → H1 p = some (.dK vs) → RpK K F1 vs ds → PostS C K W F0 H0 (k ds) E → Q (.ref p) H1) : PostND C K W σ F H r Q := by
  cases r with
  | ok d => exact fun p vs F1 H1 e h0 hf hp ra => f d p vs F1 H1 e (o.up e) h0 hf hp ra h
  | exc e => exact h σ F H o
  | bad => exact h
theorem PostIS.ofS {r : R (List D)} {k : List D → SO} {Q : It → Hp → Prop} (o : Ok K F0 H0 F H σ S) (h : PostS C K W F0 H0 (toSL r S k) E) (f : ∀ ds J F1 H1, Ext F H F1 H1 → Ok K F0 H0 F1 H1 σ S → Walk K J F1 F1 ds → PostS C K W F0 H0 (k ds) E → Q J H1) : PostIS C K W σ F H r Q := by
  cases r with
  | ok d => exact fun J F1 H1 e w => f d J F1 H1 e (o.up e) w h
  | exc e => exact h σ F H o
  | bad => exact h
theorem Ok.ownNone {i : Nat} {s : Sl} {p : Addr} (o : Ok K F0 H0 F H σ S) (h : S[i]? = some s) (hs : s.own = true) (hp : σ[i]? = some (some (.ref p))) : F p = none ∧ ∃ u, H p = some u := by
  have q := o.sl i s _ h hp
  cases s with
  | ol ds => obtain ⟨a, vs, h1, h2, h3, h4⟩ := q; cases h1; exact ⟨h2, _, h3⟩
  | od ds => obtain ⟨a, vs, h1, h2, h3, h4⟩ := q; cases h1; exact ⟨h2, _, h3⟩
  | un => cases hs
  | fz d => cases hs
/-- an owned object is written -/
theorem Ok.write {i : Nat} {s t : Sl} {p : Addr} {u : HO} (o : Ok K F0 H0 F H σ S) (h : S[i]? = some s) (hs : s.own = true) (hp : σ[i]? = some (some (.ref p))) (ht : t.own = true) (hn : SlR K F (upd H p u) (some (.ref p)) t) : Ok K F0 H0 F (upd H p u) σ (S.set i t) where
  sub := fun a w ha => by
    have na : a ≠ p := fun z => by rw [z, (o.ownNone h hs hp).1] at ha; cases ha
    rw [upd_ne na]; exact o.sub _ _ ha
  f0 := o.f0
  h0 := fun a w ha => by
    have na : a ≠ p := fun z => by rw [z, o.own i s p h hs hp] at ha; cases ha
    rw [upd_ne na]; exact o.h0 _ _ ha
  old := o.old
  len := by simp [o.len]
  sl := fun j r v h1 h2 => by
    by_cases e : i = j
    · subst e
      have hi : i < S.length := (List.getElem?_eq_some_iff.mp h).1
      rw [List.getElem?_set_self hi] at h1
      cases h1
      rw [hp] at h2
      cases h2
      exact hn
    · rw [List.getElem?_set_ne e] at h1
      have q := o.sl j r v h1 h2
      cases r with
      | un => trivial
      | fz d => exact q
      | ol ds =>
        obtain ⟨a, vs, q1, q2, q3, q4⟩ := q
        subst q1
        have na : a ≠ p := fun z => by subst z; exact e (o.dist i j s (.ol ds) a h h1 hs rfl hp h2)
        exact ⟨a, vs, rfl, q2, by rw [upd_ne na]; exact q3, q4⟩
      | od ds =>
        obtain ⟨a, vs, q1, q2, q3, q4⟩ := q
        subst q1
        have na : a ≠ p := fun z => by subst z; exact e (o.dist i j s (.od ds) a h h1 hs rfl hp h2)
        exact ⟨a, vs, rfl, q2, by rw [upd_ne na]; exact q3, q4⟩
  own := fun j r q h1 hr h2 => by
    by_cases e : i = j
    · subst e
      exact o.own i s q h hs h2
    · rw [List.getElem?_set_ne e] at h1
      exact o.own j r q h1 hr h2
  dist := fun j k r v q h1 h2 hr hv h3 h4 => by
    have lem : ∀ (j : Nat) (r : Sl), (S.set i t)[j]? = some r → r.own = true → ∃ r' : Sl, S[j]? = some r' ∧ r'.own = true := fun j r h1 hr => by
      by_cases e : i = j
      · subst e; exact ⟨s, h, hs⟩
      · rw [List.getElem?_set_ne e] at h1; exact ⟨r, h1, hr⟩
    obtain ⟨r', z1, z2⟩ := lem j r h1 hr
    obtain ⟨v', z3, z4⟩ := lem k v h2 hv
    exact o.dist j k r' v' q z1 z3 z2 z4 h3 h4
/-- an owned object is known to all from now on -/
theorem Ok.freeze {i : Nat} {s t : Sl} {p : Addr} {u : HO} (o : Ok K F0 H0 F H σ S) (h : S[i]? = some s) (hs : s.own = true) (hp : σ[i]? = some (some (.ref p))) (hu : H p = some u) (ht : t.own = false) (hn : SlR K (upd F p u) H (some (.ref p)) t) : Ok K F0 H0 (upd F p u) H σ (S.set i t) where
  sub := fun a w ha => by
    by_cases e : a = p
    · subst e; rw [upd_same] at ha; cases ha; exact hu
    · rw [upd_ne e] at ha; exact o.sub _ _ ha
  f0 := o.f0.trans (same_new (o.ownNone h hs hp).1)
  h0 := o.h0
  old := fun a w ha => by
    have na : a ≠ p := fun z => by rw [z, o.own i s p h hs hp] at ha; cases ha
    rw [upd_ne na]; exact o.old a w ha
  len := by simp [o.len]
  sl := fun j r v h1 h2 => by
    have sf : Same F (upd F p u) := same_new (o.ownNone h hs hp).1
    by_cases e : i = j
    · subst e
      have hi : i < S.length := (List.getElem?_eq_some_iff.mp h).1
      rw [List.getElem?_set_self hi] at h1
      cases h1
      rw [hp] at h2
      cases h2
      exact hn
    · rw [List.getElem?_set_ne e] at h1
      have q := o.sl j r v h1 h2
      cases r with
      | un => trivial
      | fz d => obtain ⟨w, q1, q2⟩ := q; exact ⟨w, q1, q2.up sf⟩
      | ol ds =>
        obtain ⟨a, vs, q1, q2, q3, q4⟩ := q
        subst q1
        have na : a ≠ p := fun z => by subst z; exact e (o.dist i j s (.ol ds) a h h1 hs rfl hp h2)
        exact ⟨a, vs, rfl, by rw [upd_ne na]; exact q2, q3, q4.up sf⟩
      | od ds =>
        obtain ⟨a, vs, q1, q2, q3, q4⟩ := q
        subst q1
        have na : a ≠ p := fun z => by subst z; exact e (o.dist i j s (.od ds) a h h1 hs rfl hp h2)
        exact ⟨a, vs, rfl, by rw [upd_ne na]; exact q2, q3, q4.up sf⟩
  own := fun j r q h1 hr h2 => by
    by_cases e : i = j
    · subst e
      have hi : i < S.length := (List.getElem?_eq_some_iff.mp h).1
      rw [List.getElem?_set_self hi] at h1
      cases h1; rw [ht] at hr; cases hr
    · rw [List.getElem?_set_ne e] at h1
      exact o.own j r q h1 hr h2
  dist := fun j k r v q h1 h2 hr hv h3 h4 => by
    have lem : ∀ (j : Nat) (r : Sl), (S.set i t)[j]? = some r → r.own = true → S[j]? = some r := fun j r h1 hr => by
      by_cases e : i = j
      · subst e
        have hi : i < S.length := (List.getElem?_eq_some_iff.mp h).1
        rw [List.getElem?_set_self hi] at h1
        cases h1; rw [ht] at hr; cases hr
      · rw [List.getElem?_set_ne e] at h1; exact h1
    exact o.dist j k r v q (lem j r h1 hr) (lem k v h2 hv) hr hv h3 h4
end

/-! ### one after another -/
def mSeq (a b : List Sl → SO) (S : List Sl) : SO := match a S with
  | .nx S' => b S'
  | r => r
def mSkip (S : List Sl) : SO := .nx S
section
variable {C : CL} {X : Cx} {W : WX} {st : Stmt} {sts : List Stmt} {e : Expr} {pos pos' : Pos} {x : Str}
theorem dss_nil : DSs C X W [] mSkip := .of ⟨_, pss_nil, fun F0 H0 F H σ S o E q => q σ F H o⟩
theorem dss_one {m : List Sl → SO} (h : DS C X W st m) : DSs C X W [st] m := ⟨pss_one h.run⟩
theorem PostS.seq {K : PySem.W.Frag} {F0 H0 : Hp} {a b : List Sl → SO} {S : List Sl} {E : Ends} (q : PostS C K W F0 H0 (mSeq a b S) E) : PostS C K W F0 H0 (a S) { E with nx := cS C K W b E } := by
  unfold mSeq at q
  cases h : a S with
  | nx S' => rw [h] at q; exact fun σ F H o => ⟨F0, H0, F, S', o, q⟩
  | rt d => rw [h] at q; exact q
  | bk S' => rw [h] at q; exact q
  | ct S' => rw [h] at q; exact q
  | ex e S' => rw [h] at q; exact q
  | bad => rw [h] at q; exact q
theorem dss_cons {a b : List Sl → SO} (ha : DS C X W st a) (hb : DSs C X W sts b) : DSs C X W (st :: sts) (mSeq a b) := by
  refine .of ⟨_, pss_cons ha.run hb.run, fun F0 H0 F H σ S o E q => ?_⟩
  exact ⟨F0, H0, F, S, o, q.seq⟩
/-- a step of the proof's own: an object of one's own is known to all -/
def mFrz (i : Nat) (S : List Sl) : SO := match S[i]? with
  | some (.ol ds) => .nx (S.set i (.fz (.lst ds)))
  | some (.od es) => .nx (S.set i (.fz (.dct es)))
  | some (.fz d) => .nx S
  | _ => .bad
theorem dss_frz {i : Nat} {b : List Sl → SO} (hb : DSs C X W sts b) : DSs C X W sts (mSeq (mFrz i) b) := by
  refine .of ⟨_, hb.run, fun F0 H0 F H σ S o E q => ?_⟩
  unfold mSeq mFrz at q
  split at q
  · rename_i S' h
    split at h
    · rename_i ds hd
      cases h
      obtain ⟨v, h1, p, vs, h2, h3, h4, h5⟩ := o.at hd
      subst h2
      exact ⟨F0, H0, _, _, o.freeze (t := .fz (.lst ds)) hd rfl h1 h4 rfl ⟨_, rfl, .lst upd_same (h5.up (same_new h3))⟩, q⟩
    · rename_i ds hd
      cases h
      obtain ⟨v, h1, p, vs, h2, h3, h4, h5⟩ := o.at hd
      subst h2
      exact ⟨F0, H0, _, _, o.freeze (t := .fz (.dct ds)) hd rfl h1 h4 rfl ⟨_, rfl, .dct (.inl upd_same) (h5.up (same_new h3))⟩, q⟩
    · cases h
      exact ⟨F0, H0, F, S, o, q⟩
    · cases h
  · rename_i r h
    exfalso
    revert h q
    split <;> intro h q <;> first | exact h _ rfl | exact q

/-! ### assignments -/
def mSet (i : Nat) (m : List Sl → R D) (S : List Sl) : SO := toS (m S) S fun d => .nx (S.set i (.fz d))
def mSetN (i : Nat) (m : List Sl → R (List D)) (S : List Sl) : SO := toSL (m S) S fun d => .nx (S.set i (.ol d))
def mSetND (i : Nat) (m : List Sl → R (List (Int × D))) (S : List Sl) : SO := toSL (m S) S fun d => .nx (S.set i (.od d))
theorem ds_asg {i : Nat} {m : List Sl → R D} (h : PS X st (tAsg (cE C X.K W m) (gName i))) : DS C X W st (mSet i m) := by
  refine .of ⟨_, h, fun F0 H0 F H σ S o E q => ?_⟩
  refine ⟨F0, H0, F, S, o, Post.ofS o q fun d v F1 H1 e1 o1 r1 q1 => ?_⟩
  exact q1 _ F1 H1 (o1.set (s := .fz d) rfl ⟨v, rfl, r1⟩)
theorem ds_asgN {i : Nat} {m : List Sl → R (List D)} (h : PS X st (tAsg (cN C X.K W m) (gName i))) : DS C X W st (mSetN i m) := by
  refine .of ⟨_, h, fun F0 H0 F H σ S o E q => ?_⟩
  refine ⟨F0, H0, F, S, o, PostN.ofS o q fun ds p vs F1 H1 e1 o1 h0 hf hp ra q1 => ?_⟩
  refine q1 _ F1 H1 (o1.setO (s := .ol ds) (o.h0.free h0) (fun j t ht hto hz => ?_) ⟨p, vs, rfl, hf, hp, ra⟩)
  obtain ⟨_, u, hu⟩ := o.ownNone ht hto hz
  rw [h0] at hu; cases hu
theorem ds_asgND {i : Nat} {m : List Sl → R (List (Int × D))} (h : PS X st (tAsg (cND C X.K W m) (gName i))) : DS C X W st (mSetND i m) := by
  refine .of ⟨_, h, fun F0 H0 F H σ S o E q => ?_⟩
  refine ⟨F0, H0, F, S, o, PostND.ofS o q fun ds p vs F1 H1 e1 o1 h0 hf hp ra q1 => ?_⟩
  refine q1 _ F1 H1 (o1.setO (s := .od ds) (o.h0.free h0) (fun j t ht hto hz => ?_) ⟨p, vs, rfl, hf, hp, ra⟩)
  obtain ⟨_, u, hu⟩ := o.ownNone ht hto hz
  rw [h0] at hu; cases hu
theorem ds_set {i : Nat} {m : List Sl → R D} (hN : X.N.Nodup) (hi : X.N[i]? = some x) (hx : Loc X.env.scope x) (he : DE C X W e m) (hs : swapsWith e (some (.Name x pos')) pos.line X.env = pure false := by rfl)
    (hf : X.fn x = true ∨ X.env.scope.names.lookup x = some .local := by first | exact .inl rfl | exact .inr rfl | assumption) : DS C X W (.Assign [.Name x pos'] e pos) (mSet i m) := ds_asg (ps_set hN hi hx he.run hs hf)
theorem ds_setN {i : Nat} {m : List Sl → R (List D)} (hN : X.N.Nodup) (hi : X.N[i]? = some x) (hx : Loc X.env.scope x) (he : DN C X W e m) (hs : swapsWith e (some (.Name x pos')) pos.line X.env = pure false := by rfl)
    (hf : X.fn x = true ∨ X.env.scope.names.lookup x = some .local := by first | exact .inl rfl | exact .inr rfl | assumption) : DS C X W (.Assign [.Name x pos'] e pos) (mSetN i m) := ds_asgN (ps_set hN hi hx he.run hs hf)
theorem ds_setND {i : Nat} {m : List Sl → R (List (Int × D))} (hN : X.N.Nodup) (hi : X.N[i]? = some x) (hx : Loc X.env.scope x) (he : DND C X W e m) (hs : swapsWith e (some (.Name x pos')) pos.line X.env = pure false := by rfl)
    (hf : X.fn x = true ∨ X.env.scope.names.lookup x = some .local := by first | exact .inl rfl | exact .inr rfl | assumption) : DS C X W (.Assign [.Name x pos'] e pos) (mSetND i m) := ds_asgND (ps_set hN hi hx he.run hs hf)
/-- y = [.. for ..], y plain -/
theorem ps_lcN {i : Nat} {y : Str} {py spos : Pos} {tg iter elt : Expr} {ifs : List Expr} {scope : Scope} {own : List (Str × Nat)} {t : Tg} {mi : List Sl → R (List D)} {c : List Sl → R Bool} {m : List Sl → R D} (hc : X.calm = true) (hN : X.N.Nodup)
    (hy : X.N[i]? = some y) (hyl : X.env.scope.names.lookup y = some .local) (hsw : swapsWith (.ListComp elt [⟨tg, iter, ifs, 0⟩] scope pos) (some (.Name y py)) spos.line X.env = pure true) (hi : DI C X W tg iter mi) (ok : blkC X.N X.env.scope scope own = true)
    (hv : ∀ j ∈ t.slots, j ∈ own.map (·.2))
    (hg : ∀ (s : Shared) (H : Hp) (Ca : Addr) (cl : List (Str × Addr)) (fp : List Addr), PG (X.blk s H scope (compEnvC scope cl Ca X.env) fp) tg (t.g X.K))
    (ht : ∀ (s : Shared) (H : Hp) (Ca : Addr) (cl : List (Str × Addr)) (fp : List Addr), DTs C (X.blk s H scope (compEnvC scope cl Ca X.env) fp) W0 ifs c)
    (he : ∀ (s : Shared) (H : Hp) (Ca : Addr) (cl : List (Str × Addr)) (fp : List Addr), DE C (X.blk s H scope (compEnvC scope cl Ca X.env) fp) W0 elt m) (hs : ∀ x, foldedSetIterable iter X.env x = pure x := by intro _; rfl) :
    PS X (.Assign [.Name y py] (.ListComp elt [⟨tg, iter, ifs, 0⟩] scope pos) spos) (tAsg (cN C X.K W (mLc t (own.map (·.2)) mi c m)) (gName i)) := by
  obtain ⟨ti, pi, ki⟩ := hi.ex
  have P := ps_setLc (te := cE C X.K W0 m) (tt := cT C X.K W0 c) hc hN hy hyl hsw pi (blkOk_by ok) hg (fun s H Ca cl fp => (ht s H Ca cl fp).run) (fun s H Ca cl fp => (he s H Ca cl fp).run) hs
  refine ⟨fun pins s σ H E I h => P.run pins s σ H E I ?_⟩
  obtain ⟨F0, H0, F, S, o, q⟩ := h
  refine ki _ _ _ _ _ _ o _ ?_
  unfold mLc at q
  cases hm : mi S with
  | ok ds =>
    rw [hm] at q
    intro J F1 H1 e1 w1 Dl hd
    simp only [R.bind_ok] at q
    by_cases hl : ds.length ≤ sizeLine
    · rw [if_pos hl] at q
      cases hlc : lcM t c m (wipeS S (own.map (·.2))) ds with
      | ok ys =>
        rw [hlc] at q
        exact lc_run (o.up e1) w1 hl hd hv hlc fun F' H' ws e2 fd hw ra => q Dl ws F' H' (e1.trans e2) (e1.hh.free hd) fd hw ra
      | exc x => rw [hlc] at q; exact q.elim
      | bad => rw [hlc] at q; exact q.elim
    · rw [if_neg hl] at q; exact q.elim
  | exc x => rw [hm] at q; exact q
  | bad => rw [hm] at q; exact q.elim
/-- .. known to all -/
theorem ps_N_E {i : Nat} {m : List Sl → R (List D)} (h : PS X st (tAsg (cN C X.K W m) (gName i))) : PS X st (tAsg (cE C X.K W (fun S => (m S).bind fun ds => .ok (.lst ds))) (gName i)) :=
  ⟨fun pins s σ H E I ⟨F0, H0, F, S, o, q⟩ => h.run pins s σ H E I ⟨F0, H0, F, S, o, PostN.of_post q⟩⟩

/-! ### return, expressions, if -/
def mRet (m : List Sl → R D) (S : List Sl) : SO := toS (m S) S fun d => .rt d
theorem ds_ret {m : List Sl → R D} (he : DE C X W e m) : DS C X W (.Return (some e) pos) (mRet m) := by
  obtain ⟨t, p, k⟩ := he.ex
  refine .of ⟨_, ps_ret p, fun F0 H0 F H σ S o E q => k _ _ _ _ _ _ o _ (Post.ofS o q fun d v F1 H1 e1 o1 r1 q1 => ?_)⟩
  exact q1 v F1 H1 o1.ext r1
def mDrop (m : List Sl → R D) (S : List Sl) : SO := toS (m S) S fun _ => .nx S
theorem ds_drop {m : List Sl → R D} (he : DE C X W e m) (hs : swapsWith e none pos.line X.env = pure false := by rfl) : DS C X W (.Expr e pos) (mDrop m) := by
  obtain ⟨t, p, k⟩ := he.ex
  refine .of ⟨_, ps_expr p hs, fun F0 H0 F H σ S o E q => k _ _ _ _ _ _ o _ (Post.ofS o q fun d v F1 H1 e1 o1 r1 q1 => ?_)⟩
  exact q1 σ F1 H1 o1
def mIfS (t : List Sl → R Bool) (a b : List Sl → SO) (S : List Sl) : SO := toSL (t S) S fun c => if c = true then a S else b S
theorem ds_if {c : Expr} {as bs : List Stmt} {t : List Sl → R Bool} {a b : List Sl → SO} (hc : DT C X W c t) (ha : DSs C X W as a) (hb : DSs C X W bs b) : DS C X W (.If c as bs pos) (mIfS t a b) := by
  obtain ⟨tt, p, k⟩ := hc.ex
  refine .of ⟨_, ps_if p ha.run hb.run, fun F0 H0 F H σ S o E q => k _ _ _ _ _ _ o _ (PostT.ofS o q fun c F1 H1 e1 o1 q1 => ?_)⟩
  cases c with
  | true => exact ⟨F0, H0, F1, S, o1, q1⟩
  | false => exact ⟨F0, H0, F1, S, o1, q1⟩

/-! ### for, while -/
def loopM (t : Tg) (body : List Sl → SO) : List D → List Sl → SO
  | [], S => .nx S
  | d :: ds, S => match t.put d S with
    | .ok S1 => match body S1 with
      | .nx S2 => loopM t body ds S2
      | .ct S2 => loopM t body ds S2
      | .bk S2 => .nx S2
      | r => r
    | _ => .bad
def mFor (t : Tg) (mi : List Sl → R (List D)) (body : List Sl → SO) (S : List Sl) : SO := toSL (mi S) S fun ds => loopM t body ds S
/-- the entry, with what is known to all now -/
def joinH (A B : Hp) : Hp := fun a => match A a with
  | some o => some o
  | none => B a
theorem joinH_none {A B : Hp} {a : Addr} (h1 : A a = none) (h2 : B a = none) : joinH A B a = none := by unfold joinH; rw [h1]; exact h2
theorem joinH_same {A B H : Hp} (h1 : Same A H) (h2 : Same B H) : Same (joinH A B) H := fun a o h => by
  unfold joinH at h
  cases hA : A a with
  | some u => rw [hA] at h; cases h; exact h1 _ _ hA
  | none => rw [hA] at h; exact h2 _ _ h
theorem Ok.rebase {K : PySem.W.Frag} {F0 H0 F H : Hp} {σ : St} {S : List Sl} (o : Ok K F0 H0 F H σ S) : Ok K F (joinH H0 F) F H σ S where
  sub := o.sub
  f0 := Same.refl _
  h0 := joinH_same o.h0 o.sub
  old := fun _ _ _ => rfl
  len := o.len
  sl := o.sl
  own := fun i s p h1 h2 h3 => joinH_none (o.own i s p h1 h2 h3) (o.ownNone h1 h2 h3).1
  dist := o.dist
theorem Ok.unbase {K : PySem.W.Frag} {F0 H0 F1 H1 F H : Hp} {σ σ1 : St} {S S1 : List Sl} (b : Ok K F0 H0 F1 H1 σ1 S1) (o : Ok K F1 (joinH H0 F1) F H σ S) : Ok K F0 H0 F H σ S where
  sub := o.sub
  f0 := b.f0.trans o.f0
  h0 := fun a u h => o.h0 a u (by unfold joinH; rw [h])
  old := fun a u h => (o.old a u (by unfold joinH; rw [h])).trans (b.old a u h)
  len := o.len
  sl := o.sl
  own := fun i s p h1 h2 h3 => by
    have q := o.own i s p h1 h2 h3
    unfold joinH at q
    cases hA : H0 p with
    | none => rfl
    | some u => rw [hA] at q; cases q
  dist := o.dist
theorem PostS.rebase {K : PySem.W.Frag} {F0 H0 F1 H1 : Hp} {σ1 : St} {S1 : List Sl} {r : SO} {E : Ends} (b : Ok K F0 H0 F1 H1 σ1 S1) (q : PostS C K W F0 H0 r E) : PostS C K W F1 (joinH H0 F1) r E := by
  cases r with
  | nx S => exact fun σ F H o => q σ F H (b.unbase o)
  | rt d => exact fun v F H e r => q v F H ⟨b.f0.trans e.ff, e.fh, fun a u h => e.hh a u (by unfold joinH; rw [h]), fun a u h => (e.old a u (by unfold joinH; rw [h])).trans (b.old a u h)⟩ r
  | bk S => exact fun σ F H o => q σ F H (b.unbase o)
  | ct S => exact fun σ F H o => q σ F H (b.unbase o)
  | ex e S => exact fun σ F H o => q σ F H (b.unbase o)
  | bad => exact q
theorem ds_for {tg iter : Expr} {body : List Stmt} {t : Tg} {mi : List Sl → R (List D)} {mb : List Sl → SO} (hp : PassesOwn (model X.prog X.w) X.A X.env X.xe) (hc : X.calm = true) (hi : DIS C X W tg iter mi) (hg : PG X tg (t.g X.K)) (hb : DSs C X W body mb)
    (hs : ∀ x, foldedSetIterable iter X.env x = pure x := by intro _; rfl) : DS C X W (.For tg iter body [] pos) (mFor t mi mb) := by
  obtain ⟨ti, pi, ki⟩ := hi.ex
  refine .of ⟨_, ps_for hp hc pi hg hb.run hs, fun F0 H0 F H σ S o E q => ki _ _ _ _ _ _ o _ (PostIS.ofS o q fun ds J F1 H1 e1 o1 w1 q1 => ?_)⟩
  have q2 := q1.rebase o1
  refine ⟨fun i n σ H => n = ds.length - i ∧ i ≤ ds.length ∧ ∃ F' S', Ok X.K F1 (joinH H0 F1) F' H σ S' ∧ PostS C X.K W F1 (joinH H0 F1) (loopM t mb (ds.drop i) S') E, ⟨ds.length, rfl, Nat.zero_le _, F1, S, o1.rebase, by simpa using q2⟩, ?_⟩
  rintro i n σ' H' ⟨rfl, hi, F', S', o', q'⟩
  obtain ⟨w2, w3⟩ := w1 i H' (o'.f0.trans o'.sub)
  by_cases hlt : i < ds.length
  · have hd1 : ds[i]? = some ds[i] := List.getElem?_eq_getElem hlt
    obtain ⟨g1, g2⟩ := w2 _ hd1
    rw [List.drop_eq_getElem_cons hlt] at q'
    refine .inr ⟨g1, fun σ H => ∃ F' S', Ok X.K F1 (joinH H0 F1) F' H σ S' ∧ PostS C X.K W F1 (joinH H0 F1) (loopM t mb (ds.drop (i + 1)) S') E, fun σ H h => ⟨ds.length - (i + 1), by omega, rfl, hlt, h⟩, fun x H'' y => ?_⟩
    obtain ⟨eH, rx⟩ := g2 x H'' y
    subst eH
    unfold loopM at q'
    cases hput : t.put ds[i] S' with
    | ok S1 =>
      rw [hput] at q'
      refine Tg.run o' (rx.up o'.f0) hput fun σ2 o2 _ => ⟨_, _, F', S1, o2, ?_⟩
      simp only at q'
      cases hbd : mb S1 with
      | nx S2 => rw [hbd] at q'; exact fun σ F H o3 => ⟨F, S2, o3, q'⟩
      | ct S2 => rw [hbd] at q'; exact fun σ F H o3 => ⟨F, S2, o3, q'⟩
      | bk S2 => rw [hbd] at q'; exact q'
      | rt d => rw [hbd] at q'; exact q'
      | ex e S2 => rw [hbd] at q'; exact q'
      | bad => rw [hbd] at q'; exact q'
    | exc x => rw [hput] at q'; exact q'.elim
    | bad => rw [hput] at q'; exact q'.elim
  · have ei : i = ds.length := by omega
    subst ei
    rw [List.drop_length] at q'
    exact .inl ⟨w3 (Nat.le_refl _), q' σ' F' H' o'⟩
def whileM (t : List Sl → R Bool) (body : List Sl → SO) : Nat → List Sl → SO
  | 0, _ => .bad
  | n + 1, S => toSL (t S) S fun c => if c = true then (match body S with
      | .nx S2 => whileM t body n S2
      | .ct S2 => whileM t body n S2
      | .bk S2 => .nx S2
      | r => r) else .nx S
theorem ds_while {c : Expr} {body : List Stmt} {t : List Sl → R Bool} {mb : List Sl → SO} (n : Nat) (hp : PassesOwn (model X.prog X.w) X.A X.env X.xe) (hc : DT C X W c t) (hb : DSs C X W body mb) : DS C X W (.While c body [] pos) (whileM t mb n) := by
  obtain ⟨tt, p, k⟩ := hc.ex
  refine .of ⟨_, ps_while hp p hb.run, fun F0 H0 F H σ S o E q => ?_⟩
  refine ⟨fun m σ H => ∃ F S, Ok X.K F0 H0 F H σ S ∧ PostS C X.K W F0 H0 (whileM t mb m S) E, ⟨n, F, S, o, q⟩, ?_⟩
  rintro m σ' H' ⟨F', S', o', q'⟩
  cases m with
  | zero => exact q'.elim
  | succ m =>
    unfold whileM at q'
    refine k _ _ _ _ _ _ o' _ (PostT.ofS o' q' fun c F2 H2 e2 o2 q2 => ?_)
    cases c with
    | true =>
      rw [if_pos rfl] at q2 ⊢
      refine ⟨fun σ H => ∃ F S, Ok X.K F0 H0 F H σ S ∧ PostS C X.K W F0 H0 (whileM t mb m S) E, fun σ H h => ⟨m, Nat.lt_succ_self _, h⟩, F0, H0, F2, S', o2, ?_⟩
      cases hbd : mb S' with
      | nx S2 => rw [hbd] at q2; exact fun σ F H o3 => ⟨F, S2, o3, q2⟩
      | ct S2 => rw [hbd] at q2; exact fun σ F H o3 => ⟨F, S2, o3, q2⟩
      | bk S2 => rw [hbd] at q2; exact q2
      | rt d => rw [hbd] at q2; exact q2
      | ex e S2 => rw [hbd] at q2; exact q2
      | bad => rw [hbd] at q2; exact q2
    | false =>
      rw [if_neg Bool.false_ne_true] at q2 ⊢
      exact q2 σ' F2 H2 o2

/-! ### what changes an object of one's own -/
def mApp (i : Nat) (m : List Sl → R D) (S : List Sl) : SO := match S[i]? with
  | some (.ol ds) => toS (m S) S fun d => if ds.length < sizeLine then .nx (S.set i (.ol (ds ++ [d]))) else .bad
  | _ => .bad
theorem ds_app {o : Expr} {i : Nat} {apos cpos : Pos} {m : List Sl → R D} (ho : PE X o (tVar i)) (he : DE C X W e m) (hbase : attributeBase o "append" X.env (eval o X.env) = eval o X.env := by rfl)
    (hfew : ((backTo cpos (starEach (e :: []) X.env)).all (fun x => !x.1) && (backToKw cpos (keywordEach [] X.env)).all (fun x => x.1.isSome) && decide ((e :: []).length + ([] : List Keyword).length + (if ([] : List Keyword).isEmpty then 0 else 1) < 30)) = true := by rfl)
    (hline : (apos.endLine == cpos.line) = true := by rfl) (hs : starEach (e :: []) X.env = (false, eval e X.env) :: starEach [] X.env := by rfl) (hplain : (backTo cpos (starEach [] X.env)).any (·.1) = false := by rfl)
    (hsw : swapsWith (.Call (.Attribute o "append" apos) (e :: []) [] cpos) none pos.line X.env = pure false := by rfl) : DS C X W (.Expr (.Call (.Attribute o "append" apos) (e :: []) [] cpos) pos) (mApp i m) := by
  obtain ⟨t, p, k⟩ := he.ex
  refine .of ⟨_, ps_expr (pe_bm PySem.F.plainAttrs_list PySem.F.slot_list_append PySem.F.type_list_append mt_append ho (pa_cons p pa_nil hs) hbase hfew hline hs hplain) hsw, fun F0 H0 F H σ S ok E q => ?_⟩
  unfold mApp at q
  split at q
  · rename_i ds hd
    obtain ⟨v, h1, a, vs, h2, h3, h4, h5⟩ := ok.at hd
    subst h2
    refine ⟨_, h1, .inl ⟨rfl, vs, SqL.of h4⟩, ?_⟩
    refine k _ _ _ _ _ _ ok _ (Post.ofS ok q fun d v F1 H1 e1 o1 r1 q1 => ?_)
    split at q1
    · rename_i hl
      have h6 : H1 a = some (.lst vs) := e1.hh _ _ h4
      have h7 : RpA X.K F1 vs ds := h5.up e1.ff
      refine ⟨a, vs, v, rfl, rfl, h6, by rw [h7.len]; exact hl, ?_⟩
      exact q1 σ F1 _ (o1.write hd rfl h1 rfl ⟨a, vs ++ [v], rfl, (e1.old a _ h4).trans h3, upd_same, h7.app (.one r1)⟩)
    · exact q1.elim
  · exact q.elim
/-- xs.insert(j, e) -/
def mIns (i : Nat) (mj m : List Sl → R D) (S : List Sl) : SO := match S[i]? with
  | some (.ol ds) => toS (mj S) S fun j => toS (m S) S fun d => match j with
    | .int j => if ds.length < sizeLine ∧ 0 ≤ j ∧ j < 2 ^ 63 then .nx (S.set i (.ol (ds.take j.toNat ++ [d] ++ ds.drop j.toNat))) else .bad
    | _ => .bad
  | _ => .bad
theorem ds_ins {o ej : Expr} {i : Nat} {apos cpos : Pos} {mj m : List Sl → R D} (ho : PE X o (tVar i)) (hj : DR C X W ej mj) (he : DE C X W e m) (slot : Slot "list" "insert" "list.insert") (ty : typeOf (.builtin "list.insert") = pure (.type "method_descriptor"))
    (hbase : attributeBase o "insert" X.env (eval o X.env) = eval o X.env := by rfl)
    (hfew : ((backTo cpos (starEach (ej :: e :: []) X.env)).all (fun x => !x.1) && (backToKw cpos (keywordEach [] X.env)).all (fun x => x.1.isSome) && decide ((ej :: e :: []).length + ([] : List Keyword).length + (if ([] : List Keyword).isEmpty then 0 else 1) < 30)) = true := by rfl)
    (hline : (apos.endLine == cpos.line) = true := by rfl) (hs : starEach (ej :: e :: []) X.env = (false, eval ej X.env) :: starEach (e :: []) X.env := by rfl) (hs2 : starEach (e :: []) X.env = (false, eval e X.env) :: starEach [] X.env := by rfl) (hplain : (backTo cpos (starEach (e :: []) X.env)).any (·.1) = false := by rfl)
    (hsw : swapsWith (.Call (.Attribute o "insert" apos) (ej :: e :: []) [] cpos) none pos.line X.env = pure false := by rfl) : DS C X W (.Expr (.Call (.Attribute o "insert" apos) (ej :: e :: []) [] cpos) pos) (mIns i mj m) := by
  obtain ⟨t, p, k⟩ := he.ex
  obtain ⟨tj, pj, kj⟩ := hj.ex
  refine .of ⟨_, ps_expr (pe_bm PySem.F.plainAttrs_list slot ty mt_insert ho (pa_cons pj (pa_cons p pa_nil hs2) hs) hbase hfew hline hs hplain) hsw, fun F0 H0 F H σ S ok E q => ?_⟩
  unfold mIns at q
  split at q
  · rename_i ds hd
    obtain ⟨v, h1, a, vs, h2, h3, h4, h5⟩ := ok.at hd
    subst h2
    refine ⟨_, h1, .inl ⟨rfl, vs, SqL.of h4⟩, ?_⟩
    refine kj _ _ _ _ _ _ ok _ (PostV.ofS ok q fun j w F1 H1 e1 o1 w1 q1 => ?_)
    refine k _ _ _ _ _ _ o1 _ (Post.ofS o1 q1 fun d v F2 H2 e2 o2 r2 q2 => ?_)
    cases j with
    | int j =>
      cases w1.isInt
      simp only at q2
      split at q2
      · rename_i hl
        have e12 := e1.trans e2
        have h6 : H2 a = some (.lst vs) := e12.hh _ _ h4
        have h7 : RpA X.K F2 vs ds := h5.up e12.ff
        refine ⟨a, vs, j, v, rfl, rfl, h6, by rw [h7.len]; exact hl.1, hl.2.1, hl.2.2, ?_⟩
        exact q2 σ F2 _ (o2.write hd rfl h1 rfl ⟨a, _, rfl, (e12.old a _ h4).trans h3, upd_same, ((h7.take _).app (.one r2)).app (h7.drop _)⟩)
      · exact q2.elim
    | _ => exact q2.elim
  · exact q.elim
/-- d[k] = e -/
def putD (es : List (Int × D)) (k : Int) (d : D) : List (Int × D) := if (es.any fun e => decide (e.1 = k)) = true then es.map (fun e => if e.1 = k then (e.1, d) else e) else es ++ [(k, d)]
theorem putK_rp {K : PySem.W.Frag} {F : Hp} {k : Int} {v : V} {d : D} (r : Rp K F v d) {kvs : List (Key × V)} {es : List (Int × D)} (h : RpK K F kvs es) : RpK K F (putK kvs (Sum.inl k) v) (putD es k d) := by
  have h1 : ∀ {kvs : List (Key × V)} {es : List (Int × D)}, RpK K F kvs es → (kvs.any fun kv => decide (kv.1 = (Sum.inl k : Key))) = es.any fun e => decide (e.1 = k) := by
    intro kvs es h
    induction es generalizing kvs with
    | nil => cases h; rfl
    | cons e es ih =>
      cases h with
      | cons a b =>
        rw [List.any_cons, List.any_cons, ih b]
        congr 1
        rename_i j _ _ _
        by_cases c : j = k
        · subst c; simp
        · rw [decide_eq_false c, decide_eq_false fun z => c (Sum.inl.inj z)]
  have h2 : ∀ {kvs : List (Key × V)} {es : List (Int × D)}, RpK K F kvs es → RpK K F (kvs.map fun kv => if kv.1 = (Sum.inl k : Key) then (kv.1, v) else kv) (es.map fun e => if e.1 = k then (e.1, d) else e) := by
    intro kvs es h
    induction es generalizing kvs with
    | nil => cases h; exact .nil
    | cons e es ih =>
      cases h with
      | cons a b =>
        rename_i j _ _ _
        by_cases c : j = k
        · subst c
          simp only [List.map_cons, if_true]
          exact .cons r (ih b)
        · have c' : ¬ (Sum.inl j : Key) = Sum.inl k := fun z => c (Sum.inl.inj z)
          simp only [List.map_cons, if_neg c, if_neg c']
          exact .cons a (ih b)
  have h3 : ∀ {kvs : List (Key × V)} {es : List (Int × D)}, RpK K F kvs es → RpK K F (kvs ++ [(Sum.inl k, v)]) (es ++ [(k, d)]) := by
    intro kvs es h
    induction es generalizing kvs with
    | nil => cases h; exact .cons r .nil
    | cons e es ih =>
      cases h with
      | cons a b => exact .cons a (ih b)
  unfold putK putD
  rw [h1 h]
  split
  · exact h2 h
  · exact h3 h
def mPut (i : Nat) (mk m : List Sl → R D) (S : List Sl) : SO := match S[i]? with
  | some (.od es) => toS (m S) S fun d => toS (mk S) S fun k => match k with
    | .int k => if es.length < sizeLine then .nx (S.set i (.od (putD es k d))) else .bad
    | _ => .bad
  | _ => .bad
theorem ds_put {o ek : Expr} {i : Nat} {mk m : List Sl → R D} (hu : X.A.units + 1 < cLine) (ho : PE X o (tVar i)) (hk : DR C X W ek mk) (he : DE C X W e m) (hs : swapsWith e (some (.Subscript o ek pos')) pos.line X.env = pure false := by rfl) :
    DS C X W (.Assign [.Subscript o ek pos'] e pos) (mPut i mk m) := by
  obtain ⟨t, p, k⟩ := he.ex
  obtain ⟨tk, pk, kk⟩ := hk.ex
  refine .of ⟨_, ps_dput hu ho pk p hs, fun F0 H0 F H σ S ok E q => ?_⟩
  unfold mPut at q
  split at q
  · rename_i es hd
    refine k _ _ _ _ _ _ ok _ (Post.ofS ok q fun d v F1 H1 e1 o1 r1 q1 => ?_)
    obtain ⟨w, h1, a, vs, h2, h3, h4, h5⟩ := o1.at hd
    subst h2
    refine ⟨_, h1, ?_⟩
    refine kk _ _ _ _ _ _ o1 _ (PostV.ofS o1 q1 fun y w F2 H2 e2 o2 w2 q2 => ?_)
    cases y with
    | int y =>
      cases w2.isInt
      simp only at q2
      split at q2
      · rename_i hl
        have h6 : H2 a = some (.dK vs) := e2.hh _ _ h4
        have h7 : RpK X.K F2 vs es := h5.up e2.ff
        refine ⟨a, _, rfl, .inl ⟨vs, .inl y, h6, rfl, by rw [h7.len]; exact hl, rfl⟩, ?_⟩
        exact q2 σ F2 _ (o2.write hd rfl h1 rfl ⟨a, _, rfl, (e2.old a _ h4).trans h3, upd_same, putK_rp (r1.up e2.ff) h7⟩)
      · exact q2.elim
    | _ => exact q2.elim
  · exact q.elim
theorem dnd_new : DND C X W (.Dict [] [] pos) (fun _ => .ok []) :=
  .of ⟨_, pe_dnewK, fun F0 H0 F H σ S o Q q p hp => q p [] F _ (Ext.newO o.sub hp) hp (none_of o.sub hp) upd_same .nil⟩
end

/-! ### defs -/
def spD (C : CL) (K : PySem.W.Frag) (n : Nat) (f : List D → R D) : Sp := fun vs H Q E =>
  ∃ F ds, Same F H ∧ RpA K F vs ds ∧ vs.length = n ∧ Post C K (fun cls d _ H => E cls d H) [] F H (f ds) Q
/-- a def that keeps the promise, at level k -/
structure Def (P : Program) (w : World) (K : PySem.W.Frag) (mg : Str → Option Value) (base : Heap) (C : CL) (k : Nat) (x : Str) (ps : List Str) (f : List D → R D) : Prop where
  ex : ∃ (a : Addr) (fd : FuncData), FnOk P w K mg base (L2.CX P w) k a fd ps (spD C K ps.length f) ∧ mg x = some (.ref a) ∧ PySem.W.keepIn K (.ref a) = true ∧ Binds K fd ps []
def runDef (n np : Nat) (m : List Sl → SO) (ds : List D) : R D :=
  match m (ds.map Sl.fz ++ List.replicate (n - np) Sl.un) with
  | .nx _ => .ok .non
  | .rt d => .ok d
  | .ex e _ => .exc e
  | _ => .bad
theorem start_ok {K : PySem.W.Frag} {F H : Hp} {vs : List V} {ds : List D} {N : List Str} (e : Same F H) (r : RpA K F vs ds) : Ok K F H F H (L2.start N vs) (ds.map Sl.fz ++ List.replicate (N.length - vs.length) Sl.un) where
  sub := e
  f0 := Same.refl _
  h0 := Same.refl _
  old := fun _ _ _ => rfl
  len := by unfold L2.start; simp [r.len]
  sl := fun i s v h1 h2 => by
    unfold L2.start at h2
    by_cases c : i < ds.length
    · rw [List.getElem?_append_left (by simpa using c), List.getElem?_map] at h1
      rw [List.getElem?_append_left (by rw [List.length_map, r.len]; exact c), List.getElem?_map] at h2
      rw [List.getElem?_eq_getElem c] at h1
      cases h1
      obtain ⟨u, hu, ru⟩ := r.getD (List.getElem?_eq_getElem c)
      rw [hu] at h2
      cases h2
      exact ⟨u, rfl, ru⟩
    · rw [List.getElem?_append_right (by simpa using c)] at h1
      obtain ⟨z1, z2⟩ := List.getElem?_eq_some_iff.mp h1
      rw [List.getElem_replicate] at z2
      subst z2
      trivial
  own := fun i s p h1 hs h2 => by
    exfalso
    by_cases c : i < ds.length
    · rw [List.getElem?_append_left (by simpa using c), List.getElem?_map, List.getElem?_eq_getElem c] at h1
      cases h1; cases hs
    · rw [List.getElem?_append_right (by simpa using c)] at h1
      obtain ⟨z1, z2⟩ := List.getElem?_eq_some_iff.mp h1
      rw [List.getElem_replicate] at z2
      subst z2
      cases hs
  dist := fun i j s t p h1 h2 hs ht h3 h4 => by
    exfalso
    by_cases c : i < ds.length
    · rw [List.getElem?_append_left (by simpa using c), List.getElem?_map, List.getElem?_eq_getElem c] at h1
      cases h1; cases hs
    · rw [List.getElem?_append_right (by simpa using c)] at h1
      obtain ⟨z1, z2⟩ := List.getElem?_eq_some_iff.mp h1
      rw [List.getElem_replicate] at z2
      subst z2
      cases hs
section
variable {P : Program} {w : World} {K : PySem.W.Frag} {mg : Str → Option Value} {base : Heap} {C : CL}
/-- THE RULE for a def -/
theorem Def.mkFn {x qual : Str} {st : Stmt} {f : Addr} {fd : FuncData} {N ps : List Str} {k n np : Nat} {m : List Sl → SO} (hn : N.length = n) (hnp : ps.length = np) (F : Fun K x qual st f fd) (S : FnScope N ps (defScope st))
    (body : ∀ (cdv : Value) (A : Around) (outer : List Env) (s : Shared) (H : Hp) (E : XK), Room k (A.deeper (envOfC qual (defScope st) s.heap.objs.size f cdv)) →
      DSs C (cxOf (L2.CX P w) P w K mg base N qual (defScope st) f cdv A outer s H E) (fun cls d _ H => E cls d H) (defBody st) m) : FnOk P w K mg base (L2.CX P w) (k + 1) f fd ps (spD C K np (runDef n np m)) := by
  subst hn hnp
  refine F.okX S (fun vs H Q E h => ?_) (fun cdv A outer s H vs Q E hr h => ?_)
  · obtain ⟨_, _, _, _, hl, _⟩ := h
    exact hl
  · obtain ⟨F', ds, e, ra, hl, q⟩ := h
    refine ⟨_, (body cdv A outer s H E hr).run, F', H, F', _, start_ok e ra, ?_⟩
    unfold runDef at q
    rw [← hl] at q
    cases h : m (ds.map Sl.fz ++ List.replicate (N.length - vs.length) Sl.un) with
    | nx S => rw [h] at q; exact fun σ F1 H1 o => q .non F1 H1 o.ext .non
    | rt d => rw [h] at q; exact fun v F1 H1 o r => q v F1 H1 o r
    | ex e S => rw [h] at q; exact fun σ F1 H1 o cls d F2 H2 e2 z => q cls d F2 H2 (o.ext.trans e2) z
    | bk S => rw [h] at q; exact q.elim
    | ct S => rw [h] at q; exact q.elim
    | bad => rw [h] at q; exact q.elim
theorem Def.mk' {x qual : Str} {st : Stmt} {f : Addr} {fd : FuncData} {N ps : List Str} {k n np : Nat} {m : List Sl → SO} (hn : N.length = n) (hnp : ps.length = np) (F : Fun K x qual st f fd) (S : FnScope N ps (defScope st)) (hm : mg x = some (.ref f)) (hb : Binds K fd ps [])
    (body : ∀ (cdv : Value) (A : Around) (outer : List Env) (s : Shared) (H : Hp) (E : XK), Room k (A.deeper (envOfC qual (defScope st) s.heap.objs.size f cdv)) →
      DSs C (cxOf (L2.CX P w) P w K mg base N qual (defScope st) f cdv A outer s H E) (fun cls d _ H => E cls d H) (defBody st) m) : Def P w K mg base C (k + 1) x ps (runDef n np m) := by
  subst hnp
  exact ⟨f, fd, Def.mkFn hn rfl F S body, hm, F.kp, hb⟩
end
section
variable {C : CL} {X : Cx} {W : WX} {e : Expr} {es : List Expr} {pos p : Pos} {x : Str}
/-- f(..): arguments known to all -/
theorem de_call {k j : Nat} {ps : List Str} {g : List D → R D} {m : List Sl → R (List D)} (F : Def X.prog X.w X.K X.mg X.base C k x ps g) (hr : Room j X.A) (hk : k ≤ j) (tk : Takes X W) (hg : Gl X x) (ha : DAR C X W (e :: es) m) (hl : (e :: es).length = ps.length) (hml : ∀ S xs, m S = .ok xs → xs.length = ps.length)
    (hdb : (x == ("__debug__" : Str)) = false := by decide) (he : starEach (e :: es) X.env = (false, eval e X.env) :: starEach es X.env := by rfl) (hpl : (backTo pos (starEach es X.env)).any (·.1) = false := by rfl) :
    DE C X W (.Call (.Name x p) (e :: es) [] pos) (fun S => (m S).bind g) := by
  obtain ⟨a, fd, fn, mgx, kp, hb⟩ := F.ex
  obtain ⟨ta, pa, ka⟩ := ha.ex
  refine .of ⟨_, pe_callS (E := WE W) fn (hr.mono hk) hg mgx kp hb (fun σ => passAt tk σ) pa hdb he hpl, fun F0 H0 F H σ S o Q q => ?_⟩
  have hm2 := hml S
  cases hm : m S with
  | ok xs =>
    rw [hm] at q
    refine ka _ _ _ _ _ _ o _ ?_
    rw [hm]
    intro vs F1 H1 e1 r1
    refine ⟨F1, xs, e1.fh, r1, by rw [r1.len]; exact hm2 xs hm, ?_⟩
    have q1 : Post C X.K W σ F1 H1 (g xs) Q := Post.up q e1
    cases h : g xs with
    | ok z => rw [h] at q1; exact q1
    | exc z => rw [h] at q1; exact q1
    | bad => rw [h] at q1; exact q1
  | exc z => rw [hm] at q; refine ka _ _ _ _ _ _ o _ ?_; rw [hm]; exact q
  | bad => rw [hm] at q; exact q.elim
def scalD : D → R D
  | .non => .ok .non
  | .bl b => .ok (.bl b)
  | .int i => .ok (.int i)
  | .str s => .ok (.str s)
  | _ => .bad
theorem scalD_ok {x y : D} (h : scalD x = .ok y) : y = x ∧ ∀ (K : PySem.W.Frag) (F G : Hp) (v : V), Rp K F v x → Rp K G v x := by
  cases x <;> first | (cases h; refine ⟨rfl, fun K F G v r => ?_⟩; cases r; constructor) | cases h
theorem scalD_exc {x : D} {e : Exn} : scalD x ≠ .exc e := by intro h; cases x <;> cases h
/-- f(..): any arguments, a scalar comes back -/
theorem de_callV {k j : Nat} {ps : List Str} {g : List D → R D} {m : List Sl → R (List D)} (F : Def X.prog X.w X.K X.mg X.base C k x ps g) (hr : Room j X.A) (hk : k ≤ j) (tk : Takes X W) (hg : Gl X x) (ha : DA C X W (e :: es) m) (hml : ∀ S xs, m S = .ok xs → xs.length = ps.length)
    (hdb : (x == ("__debug__" : Str)) = false := by decide) (he : starEach (e :: es) X.env = (false, eval e X.env) :: starEach es X.env := by rfl) (hpl : (backTo pos (starEach es X.env)).any (·.1) = false := by rfl) :
    DE C X W (.Call (.Name x p) (e :: es) [] pos) (fun S => (m S).bind fun xs => (g xs).bind scalD) := by
  obtain ⟨a, fd, fn, mgx, kp, hb⟩ := F.ex
  obtain ⟨ta, pa, ka⟩ := ha.ex
  refine .of ⟨_, pe_callS (E := WE W) fn (hr.mono hk) hg mgx kp hb (fun σ => passAt tk σ) pa hdb he hpl, fun F0 H0 F H σ S o Q q => ?_⟩
  have hm2 := hml S
  cases hm : m S with
  | ok xs =>
    rw [hm] at q
    refine ka _ _ _ _ _ _ o _ ?_
    rw [hm]
    intro vs F1 H1 e1 w1
    have r1 := w1.rp e1.fh
    refine ⟨H1, xs, Same.refl _, r1, by rw [r1.len]; exact hm2 xs hm, ?_⟩
    have q1 : Post C X.K W σ F1 H1 ((g xs).bind scalD) Q := Post.up q e1
    have back : ∀ F2 H2, Ext H1 H1 F2 H2 → Ext F1 H1 F1 H2 := fun F2 H2 e2 => ⟨Same.refl _, e1.fh.trans e2.hh, e2.hh, fun _ _ _ => rfl⟩
    cases h : g xs with
    | ok z =>
      rw [h] at q1
      simp only [R.bind_ok] at q1
      cases h2 : scalD z with
      | ok y =>
        rw [h2] at q1
        obtain ⟨ey, sc⟩ := scalD_ok h2
        subst ey
        exact fun v F2 H2 e2 r2 => q1 v F1 H2 (back _ _ e2) (sc _ _ _ _ r2)
      | exc y => exact absurd h2 scalD_exc
      | bad => rw [h2] at q1; exact q1.elim
    | exc z => rw [h] at q1; exact fun cls d F2 H2 e2 y => q1 cls d F1 H2 (back _ _ e2) y
    | bad => rw [h] at q1; exact q1.elim
  | exc z => rw [hm] at q; refine ka _ _ _ _ _ _ o _ ?_; rw [hm]; exact q
  | bad => rw [hm] at q; exact q.elim
/-- how many arguments there are -/
theorem len_nil : ∀ S xs, aNil S = .ok xs → xs.length = 0 := fun S xs h => by cases h; rfl
theorem len_cons {ma : List Sl → R D} {mr : List Sl → R (List D)} {n : Nat} (h : ∀ S xs, mr S = .ok xs → xs.length = n) : ∀ S xs, aCons ma mr S = .ok xs → xs.length = n + 1 := fun S xs q => by
  obtain ⟨x, _, q⟩ := bind_ok q
  obtain ⟨ys, h1, q⟩ := bind_ok q
  cases q
  simp [h S ys h1]
end
end DL
/-! The data layer, part G: the module's built-in names, the law's end. -/
namespace DL
open PySem L2

/-- the built-in names that the module leaves alone -/
structure Blt (mg : Str → Option Value) : Prop where
  len : mg "len" = none
  abs : mg "abs" = none
  str : mg "str" = none
  int : mg "int" = none
  bool : mg "bool" = none
  any : mg "any" = none
  all : mg "all" = none
  tuple : mg "tuple" = none
  list : mg "list" = none
  dict : mg "dict" = none
  set : mg "set" = none
  sorted : mg "sorted" = none
  isinstance : mg "isinstance" = none
  range : mg "range" = none
  reversed : mg "reversed" = none
  max : mg "max" = none
  min : mg "min" = none
  VE : mg "ValueError" = none
theorem blt_mk {K : PySem.W.Frag} {h : Heap} {mg : Str → Option Value} (X : K.In h) (G : h.Ns mainGlobals mg)
    (z0 : PySem.W.nsIn K mainGlobals "len" = some none) (z1 : PySem.W.nsIn K mainGlobals "abs" = some none) (z2 : PySem.W.nsIn K mainGlobals "str" = some none) (z3 : PySem.W.nsIn K mainGlobals "int" = some none) (z4 : PySem.W.nsIn K mainGlobals "bool" = some none) (z5 : PySem.W.nsIn K mainGlobals "any" = some none) (z6 : PySem.W.nsIn K mainGlobals "all" = some none) (z7 : PySem.W.nsIn K mainGlobals "tuple" = some none) (z8 : PySem.W.nsIn K mainGlobals "list" = some none) (z9 : PySem.W.nsIn K mainGlobals "dict" = some none) (z10 : PySem.W.nsIn K mainGlobals "set" = some none) (z11 : PySem.W.nsIn K mainGlobals "sorted" = some none) (z12 : PySem.W.nsIn K mainGlobals "isinstance" = some none) (z13 : PySem.W.nsIn K mainGlobals "range" = some none) (z14 : PySem.W.nsIn K mainGlobals "reversed" = some none) (z15 : PySem.W.nsIn K mainGlobals "max" = some none) (z16 : PySem.W.nsIn K mainGlobals "min" = some none) (z17 : PySem.W.nsIn K mainGlobals "ValueError" = some none) : Blt mg :=
  ⟨PySem.W.mg_none_of X G z0, PySem.W.mg_none_of X G z1, PySem.W.mg_none_of X G z2, PySem.W.mg_none_of X G z3, PySem.W.mg_none_of X G z4, PySem.W.mg_none_of X G z5, PySem.W.mg_none_of X G z6, PySem.W.mg_none_of X G z7, PySem.W.mg_none_of X G z8, PySem.W.mg_none_of X G z9, PySem.W.mg_none_of X G z10, PySem.W.mg_none_of X G z11, PySem.W.mg_none_of X G z12, PySem.W.mg_none_of X G z13, PySem.W.mg_none_of X G z14, PySem.W.mg_none_of X G z15, PySem.W.mg_none_of X G z16, PySem.W.mg_none_of X G z17⟩
theorem slot_ins : Slot "list" "insert" "list.insert" := PySem.F.slot_list_insert
theorem type_ins : typeOf (.builtin "list.insert") = pure (.type "method_descriptor") := PySem.F.type_list_insert
/-- a def of the text where it stands -/
structure At (K : PySem.W.Frag) (mg : Str → Option Value) (x : Str) (st : Stmt) (ps : List Str) : Prop where
  ex : ∃ (f : Addr) (fd : FuncData), Fun K x x st f fd ∧ mg x = some (.ref f) ∧ Binds K fd ps []
theorem at_mk {K : PySem.W.Frag} {h : Heap} {mg : Str → Option Value} {x : Str} {st : Stmt} {ps : List Str} {f : Addr} {oc : Value} {od an : Option Addr} {osl : Array (Option Value)} {kV doc pm cdv ct : Value} (X : K.In h) (G : h.Ns mainGlobals mg)
    (a : PySem.W.nsIn K mainGlobals x = some (some (.ref f))) (l : K.lookup f = some ⟨oc, od, .func (PySem.W.fnOf x x (defArgs st) (defBody st) (defScope st) .none kV doc pm an cdv ct), osl⟩) (c : PySem.W.codeIn K cdv x = true) (k : PySem.W.keepIn K (.ref f) = true)
    (b : ∀ (kV doc pm : Value) (an : Option Addr) (cdv ct : Value) (us : List Value), us.length = ps.length → bindArgs (PySem.W.fnOf x x (defArgs st) (defBody st) (defScope st) .none kV doc pm an cdv ct) ⟨us, []⟩ = pure (ps.zip us)) : At K mg x st ps :=
  have F := fun_mk (st := st) l c k
  ⟨f, _, F, PySem.W.mg_of X G a, F.binds b⟩
/-- the law itself: its function object is asked ahead of the base -/
structure AtL (K : PySem.W.Frag) (st : Stmt) (x0 : Str) (fa : Addr) : Prop where
  ex : ∃ fd : FuncData, Fun K "law" "law" st fa fd ∧ ∀ (s : Shared) (v : Value), BindsTo s fd ⟨[v], []⟩ [(x0, v)]
theorem atL_mk {K : PySem.W.Frag} {h : Heap} {mg : Str → Option Value} {st : Stmt} {x0 : Str} {f fa : Addr} {oc : Value} {od an : Option Addr} {osl : Array (Option Value)} {kV doc pm cdv ct : Value} (X : K.In h) (G : h.Ns mainGlobals mg) (hfa : mg "law" = some (.ref fa))
    (a : PySem.W.nsIn K mainGlobals "law" = some (some (.ref f))) (l : K.lookup f = some ⟨oc, od, .func (PySem.W.fnOf "law" "law" (defArgs st) (defBody st) (defScope st) .none kV doc pm an cdv ct), osl⟩) (c : PySem.W.codeIn K cdv "law" = true) (k : PySem.W.keepIn K (.ref f) = true)
    (b : ∀ (kV doc pm : Value) (an : Option Addr) (cdv ct : Value) (v : Value), bindArgs (PySem.W.fnOf "law" "law" (defArgs st) (defBody st) (defScope st) .none kV doc pm an cdv ct) ⟨[v], []⟩ = pure [(x0, v)]) : AtL K st x0 fa := by
  have e := hfa.symm.trans (PySem.W.mg_of X G a)
  cases e
  exact ⟨_, fun_mk (st := st) l c k, fun s v => .of_eq (b _ _ _ _ _ _ v)⟩
/-- what law(script) promises -/
def spLaw (K : PySem.W.Frag) : Sp := fun vs H Q _ => ∃ (a : Addr) (ns : List Int), vs = [.ref a] ∧ SqL K H a (ns.map V.int) ∧ ns.length ≤ 63 ∧ ∀ H', Q (.bl true) H'
theorem law_end {P : Program} {w : World} {K : PySem.W.Frag} {mg : Str → Option Value} {base : Heap} {C : CL} {k : Nat} {f : Addr} {fd : FuncData} {x : Str} {g : List D → R D} (F : FnOk P w K mg base (L2.CX P w) k f fd [x] (spD C K 1 g))
    (h : ∀ ns : List Int, ns.length ≤ 63 → g [.scr ns] = .ok (.bl true)) : FnOk P w K mg base (L2.CX P w) k f fd [x] (spLaw K) := by
  refine F.imp fun vs H Q E ⟨a, ns, e, hs, hl, q⟩ => ?_
  subst e
  refine ⟨H, [.scr ns], Same.refl _, .cons (.scr hs) .nil, rfl, ?_⟩
  rw [h ns hl]
  intro v F' H' e r
  cases r
  exact q H'
theorem law_walk {l : PySem.W.OpenLaw} {k : Nat} {q : Program} {loose : List Str} {XP : (Str → Option Value) → Heap → Prop} {YP : World → Heap → Prop} {d : DefRec} {K : Params → PySem.W.Frag} {x : Str} (hn : l.most = some 63) (hdf : d.params.defaults = []) (hr : Room k callerA)
    (hY : ∀ (w : World) (h : Heap), YP w h → (K w.params).In h)
    (F : ∀ (w : World) (mg : Str → Option Value) (fa : Addr) (h : Heap), (K w.params).In h → h.Ns mainGlobals mg → mg d.name = some (.ref fa) →
      ∃ fd : FuncData, (∀ (s : Shared) (u : Value), BindsTo s fd ⟨[u], []⟩ [(x, u)]) ∧ ∀ base : Heap, (K w.params).In base → base.Ns mainGlobals mg → FnOk l.prog w (K w.params) mg base (L2.CX l.prog w) k fa fd [x] (spLaw (K w.params))) :
    PySem.W.WalkO q loose XP YP l.row.toRowW d [] (fun f vs => PySem.call f vs) :=
  L2.walk_of (n := 63) (k := k) (x := x) (CX := fun w => L2.CX l.prog w) (sp := fun w => spLaw (K w.params)) hn (by decide) hdf hr hY F (fun _ _ a ns hl _ hS => ⟨a, ns, rfl, hS, hl, fun _ => rfl⟩) fun _ _ _ _ _ z => by
    obtain ⟨_, _, _, _, _, _, _, _, _, _, _, _, z⟩ := z
    exact z
end DL
/-! The data layer, part H: min(xs, key=abs). -/
namespace DL
open PySem L2 PyProof.Rows

section
variable {prog : Program} {w : World} {A : Around} {E : Value → Shared → Prop} {s : Shared}
theorem key_run {its : List Value} {ns : List Int} (hi : IntsAre its ns) (s0 : Shared) (St : Nat → Shared → Prop) (hSt : ∀ i (s : Shared) tk, St i s → St i { s with toks := tk }) (S I : Addr) (h0 : ∀ b o, s0.heap.get? b = some o → b ≠ S ∧ b ≠ I) :
    KeyRun prog w A (.builtin "abs") .Lt S [I] (fun a b => b = a) its.length (fun i v => its.toArray[i]? = some v) St (fun s' => ∃ h' tk, s' = { s0 with heap := h', toks := tk } ∧ ∀ b o, s0.heap.get? b = some o → h'.get? b = some o)
      (fun i k _ => ∃ t, k = .int ((ns.getD i 0).natAbs : Int) t) (fun i j => decide (((ns.getD i 0).natAbs : Int) < ((ns.getD j 0).natAbs : Int))) where
  keep := fun s s' ⟨h', tk, e, k⟩ m => by
    subst e
    refine ⟨s'.heap, s'.toks, ?_, fun b o hb => m.heap b o (fun hm => ?_) (k b o hb)⟩
    · obtain ⟨mh, mg, md, mo, mt⟩ := m
      cases s'
      simp only at mg md mo
      subst mg; subst md; subst mo
      rfl
    · obtain ⟨n1, n2⟩ := h0 b o hb
      rcases List.mem_cons.mp hm with e | hm
      · exact n1 e
      · exact n2 (List.mem_singleton.mp hm)
  keepV := fun _ _ _ _ h _ => h
  turn := fun i v s o Q E hi' hP ⟨h', tk, e, k⟩ st hS q => by
    obtain ⟨n, hn⟩ : ∃ n, ns[i]? = some n := ⟨_, List.getElem?_eq_getElem (by have := hi.length; omega)⟩
    obtain ⟨t, ht⟩ := hi.get i n hn
    have hv : its[i]? = some v := by simpa using hP
    rw [ht] at hv
    cases hv
    have e2 : ns.getD i 0 = n := by simp [hn]
    refine call_abs_int fun u tk2 => ?_
    refine q _ _ ⟨h', tk2, by rw [e], k⟩ (hSt _ _ _ st) hS ⟨u, ?_⟩ fun _ _ h => h
    rw [e2]
    congr 1
    split <;> omega
  cmp := fun i j ki kj s Q E _ ⟨t, hk⟩ ⟨u, hk2⟩ q => by
    subst hk; subst hk2
    exact richCompare_gives (op := .Lt) (typeIs_int s _ t) (typeIs_int s _ u) F.slot_int_lt F.entry_int_lt (F.args_int_lt_2 _ _) (gives_int_lt _ _ t u) (fun x => nomatch x) q
theorem min_abs_raw {its : List Value} {ns : List Int} {l : Addr} {Q : Value → Shared → Prop} (hh : A.handled = none) (hl : s.heap.IsList l its.toArray) (hi : IntsAre its ns) (hne : 0 < ns.length)
    (h : ∀ h' tk M t', (∀ b o, s.heap.get? b = some o → h'.get? b = some o) → M ∈ ns → (∀ a, a ∈ ns → M.natAbs ≤ a.natAbs) → Q (.int M t') { s with heap := h', toks := tk }) : wpAny (model prog w) A (call (.builtin "min") [.ref l] [(Str.ofString "key", .builtin "abs")]) Q E s := by
  have hlen := hi.length
  have hn0 : 0 < its.length := by omega
  have hll : l < s.heap.objs.size := by obtain ⟨_, e, _⟩ := hl; exact Heap.lt_size e
  refine kmb_tree F.kind_min F.plain_min F.entry_min (kmb_min_key _ _) (wpAny_bind (wpAny_of_eq (show Builtin.Builtins.bindParams "min" ["key", "default"] 0 ⟨[], [(Str.ofString "key", Value.builtin "abs")]⟩ = pure [some (Value.builtin "abs"), none] from rfl) (wpAny_bind (wpAny_pure ?_))))
  refine wpAny_bind (wpAny_pyIter_list hl (wpAny_bind (wpAny_newList ?_ (Nat.zero_le _))))
  rw [show (toString "min" ++ toString ".loop" : String) = "min.loop" by decide]
  refine wpAny_pure ⟨plainId_quiet F.plain_min_loop _, ?_⟩
  have hsz : (s.heap.push { cls := .type "list_iterator", data := .fields #[.ref l, .int 0 0] }).objs.size = s.heap.objs.size + 1 := size_push' ..
  have hlI : l ≠ s.heap.objs.size := Nat.ne_of_lt hll
  have W := (Walks.list (prog := prog) (w := w) (A := A.in1) hh s.heap.objs.size l hlI its.toArray).toS
  rw [List.size_toArray] at W
  refine codeAny_min_loop_firstKB W (s.heap.push { cls := .type "list_iterator", data := .fields #[.ref l, .int 0 0] }).objs.size ?_
    (key_run hi s _ (fun _ _ _ h => h) _ _ fun b o e => ⟨?_, ?_⟩) _ hn0 ⟨_, s.toks, rfl, fun b o e => Heap.get?_push_of_some _ (Heap.get?_push_of_some _ e)⟩
    ⟨⟨_, Heap.get?_push_of_some _ (Heap.get?_push_size _ rfl), rfl, rfl⟩, ?_⟩ (Heap.get?_push_size _ rfl) fun v s' hv hJ => ?_
  · rw [hsz]
    intro hm
    rcases List.mem_cons.mp hm with e | hm
    · exact absurd e (Nat.ne_of_gt (Nat.lt_succ_self _))
    · exact absurd (List.mem_singleton.mp hm) (Nat.ne_of_gt (Nat.lt_succ_of_lt hll))
  · rw [hsz]; exact Nat.ne_of_lt (Nat.lt_succ_of_lt (Heap.lt_size e))
  · exact Nat.ne_of_lt (Heap.lt_size e)
  · exact (hl.push _).push _
  · obtain ⟨h', tk, rfl, k⟩ := hJ
    obtain ⟨h1, h2⟩ := argBest_lt (fun i => ((ns.getD i 0).natAbs : Int)) (its.length - 1)
    have hv : its[argBest (fun i j => decide (((ns.getD i 0).natAbs : Int) < ((ns.getD j 0).natAbs : Int))) (its.length - 1)]? = some v := by simpa using hv
    generalize argBest (fun i j => decide (((ns.getD i 0).natAbs : Int) < ((ns.getD j 0).natAbs : Int))) (its.length - 1) = i at *
    obtain ⟨n, hn⟩ : ∃ n, ns[i]? = some n := ⟨_, List.getElem?_eq_getElem (by omega)⟩
    obtain ⟨t, ht⟩ := hi.get i n hn
    rw [ht] at hv
    cases hv
    have e2 : ns.getD i 0 = n := by simp [hn]
    refine h h' tk n t k (List.mem_of_getElem? hn) fun a ha => ?_
    obtain ⟨j, hj, ej⟩ := List.getElem_of_mem ha
    have := h2 j (by omega)
    have e3 : ns.getD j 0 = a := by rw [← ej]; simp [hj]
    simp only [e2, e3] at this
    omega
end
def tMinAbs (K : PySem.W.Frag) (ta : TA) : TE := fun σ H Q => ta σ H fun vs H1 => ∃ (a : Addr) (ns : List Int), vs = [V.ref a] ∧ SqL K H1 a (ns.map V.int) ∧ 0 < ns.length ∧ ∀ m, m ∈ ns → (∀ y, y ∈ ns → m.natAbs ≤ y.natAbs) → Q (.int m) H1
theorem pe_min_abs {X : Cx} {e : Expr} {ta : TA} {p p2 kpos pos : Pos} (hc : X.calm = true) (hg : Gl X "min") (hg2 : Gl X "abs") (hm : X.mg "min" = none) (hm2 : X.mg "abs" = none) (ha : PA X [e] ta)
    (hse : backTo pos (starEach [e] X.env) = [(false, eval e X.env)] := by rfl) (hpl : (backTo pos (starEach [e] X.env)).any (·.1) = false := by rfl) : PE X (.Call (.Name "min" p) [e] [⟨some "key", .Name "abs" p2, kpos⟩] pos) (tMinAbs X.K ta) := by
  refine ⟨fun pins s σ H Q I h => ?_⟩
  refine wpAny_Call_Name_kw (ld_blt I hg hm boot_min ?_)
  refine callWith_kw (thn (ha.run pos pins s σ H _ I h) fun us s1 ⟨vs, H1, I1, r1, q1⟩ => ?_) hse hpl rfl rfl
  show wpAny _ _ (evalAll [do let v ← eval (.Name "abs" p2) X.env; standAt pos; pure v]) _ _ s1
  refine wpAny_evalAll_cons (wpAny_bind (ld_blt I1 hg2 hm2 boot_abs (wpAny_bind (wpAny_standAt (wpAny_pure (wpAny_evalAll_nil ?_))))))
  obtain ⟨a, ns, ev, hs, hne, q⟩ := q1
  subst ev
  obtain ⟨its, rv, hl, _⟩ := I1.list hs
  rw [Vals.ref1 r1]
  exact min_abs_raw (I1.ok.hd hc) hl.isList rv.ints hne fun h' tk m t' hk h1 h2 => ⟨.int _, H1, I1.kept hk, ⟨_, rfl⟩, q m h1 h2⟩
end DL
/-! The data layer, part I: a dict's keys walked in a comprehension. -/
namespace DL
open PySem L2

/-! ### a dict locked and unlocked -/
def LockTo (F G : Hp) : Prop := ∀ a o, F a = some o → G a = some o ∨ ∃ od kvs, o = .dK kvs ∧ G a = some (.frz od (.dK kvs))
section
variable {K : PySem.W.Frag} {F G : Hp}
theorem LockTo.rdD (e : LockTo F G) {a : Addr} {kvs : List (Key × V)} (h : Rd F a (.dK kvs)) : Rd G a (.dK kvs) := by
  rcases h with h | ⟨o, h⟩
  · rcases e _ _ h with h | ⟨od, k2, e1, h⟩
    · exact .inl h
    · cases e1; exact .inr ⟨od, h⟩
  · rcases e _ _ h with h | ⟨od, k2, e1, h⟩
    · exact .inr ⟨o, h⟩
    · cases e1
theorem LockTo.rdL (e : LockTo F G) {a : Addr} {xs : List V} (h : Rd F a (.lst xs)) : Rd G a (.lst xs) := by
  rcases h with h | ⟨o, h⟩
  · rcases e _ _ h with h | ⟨od, k2, e1, h⟩
    · exact .inl h
    · cases e1
  · rcases e _ _ h with h | ⟨od, k2, e1, h⟩
    · exact .inr ⟨o, h⟩
    · cases e1
theorem LockTo.lst (e : LockTo F G) {a : Addr} {xs : List V} (h : F a = some (.lst xs)) : G a = some (.lst xs) := by
  rcases e _ _ h with h | ⟨od, k2, e1, h⟩
  · exact h
  · cases e1
theorem LockTo.tup (e : LockTo F G) {a : Addr} {xs : List V} (h : F a = some (.tup xs)) : G a = some (.tup xs) := by
  rcases e _ _ h with h | ⟨od, k2, e1, h⟩
  · exact h
  · cases e1
theorem LockTo.sq (e : LockTo F G) {a : Addr} {xs : List V} (h : SqL K F a xs) : SqL K G a xs := by
  rcases h with h | h
  · exact .inl (e.rdL h)
  · exact .inr h
mutual
theorem Rp.lock (e : LockTo F G) : ∀ (d : D) (v : V), Rp K F v d → Rp K G v d
  | .non, _, h => by cases h; exact .non
  | .bl b, _, h => by cases h; exact .bl b
  | .int i, _, h => by cases h; exact .int i
  | .str i, _, h => by cases h; exact .str i
  | .lst ds, _, h => by
    cases h with
    | lst h1 h2 => exact .lst (e.lst h1) (RpA.lock e ds _ h2)
  | .tup ds, _, h => by
    cases h with
    | tup h1 h2 => exact .tup (e.tup h1) (RpA.lock e ds _ h2)
  | .dct es, _, h => by
    cases h with
    | dct h1 h2 => exact .dct (e.rdD h1) (RpK.lock e es _ h2)
  | .scr ns, _, h => by
    cases h with
    | scr h1 => exact .scr (e.sq h1)
theorem RpA.lock (e : LockTo F G) : ∀ (ds : List D) (vs : List V), RpA K F vs ds → RpA K G vs ds
  | [], _, h => by cases h; exact .nil
  | d :: ds, _, h => by
    cases h with
    | cons h1 h2 => exact .cons (Rp.lock e d _ h1) (RpA.lock e ds _ h2)
theorem RpK.lock (e : LockTo F G) : ∀ (ds : List (Int × D)) (vs : List (Key × V)), RpK K F vs ds → RpK K G vs ds
  | [], _, h => by cases h; exact .nil
  | (k, d) :: ds, _, h => by
    cases h with
    | cons h1 h2 => exact .cons (Rp.lock e d _ h1) (RpK.lock e ds _ h2)
end
mutual
def noD : D → Bool
  | .lst ds => noDA ds
  | .tup ds => noDA ds
  | .dct _ => false
  | _ => true
def noDA : List D → Bool
  | [] => true
  | d :: ds => noD d && noDA ds
end
def FreeTo (F G : Hp) : Prop := ∀ a o, F a = some o → G a = some o ∨ ∃ od kvs, o = .frz od (.dK kvs)
mutual
theorem Rp.free (e : FreeTo F G) : ∀ (d : D) (v : V), noD d = true → Rp K F v d → Rp K G v d
  | .non, _, _, h => by cases h; exact .non
  | .bl b, _, _, h => by cases h; exact .bl b
  | .int i, _, _, h => by cases h; exact .int i
  | .str i, _, _, h => by cases h; exact .str i
  | .lst ds, _, n, h => by
    cases h with
    | lst h1 h2 =>
      rcases e _ _ h1 with h | ⟨od, k2, e1⟩
      · exact .lst h (RpA.free e ds _ n h2)
      · cases e1
  | .tup ds, _, n, h => by
    cases h with
    | tup h1 h2 =>
      rcases e _ _ h1 with h | ⟨od, k2, e1⟩
      · exact .tup h (RpA.free e ds _ n h2)
      · cases e1
  | .dct es, _, n, h => by cases n
  | .scr ns, _, _, h => by
    cases h with
    | scr h1 =>
      refine .scr ?_
      rcases h1 with (h | ⟨o, h⟩) | h
      · rcases e _ _ h with h | ⟨od, k2, e1⟩
        · exact .inl (.inl h)
        · cases e1
      · rcases e _ _ h with h | ⟨od, k2, e1⟩
        · exact .inl (.inr ⟨o, h⟩)
        · cases e1
      · exact .inr h
theorem RpA.free (e : FreeTo F G) : ∀ (ds : List D) (vs : List V), noDA ds = true → RpA K F vs ds → RpA K G vs ds
  | [], _, _, h => by cases h; exact .nil
  | d :: ds, _, n, h => by
    cases h with
    | cons h1 h2 =>
      have n' : (noD d && noDA ds) = true := n
      rw [Bool.and_eq_true] at n'
      exact .cons (Rp.free e d _ n'.1 h1) (RpA.free e ds _ n'.2 h2)
end
end
def keysD (es : List (Int × D)) : List D := es.map fun e => .int e.1
/-- a comprehension over the keys of the dict in slot i -/
def mLcK (i : Nat) (t : Tg) (vs : List Nat) (c : List Sl → R Bool) (m : List Sl → R D) (S : List Sl) : R (List D) :=
  let go (es : List (Int × D)) : R (List D) := if es.length ≤ sizeLine then (match lcM t c m (wipeS (S.set i (.fz (.dct es))) vs) (keysD es) with | .ok ys => if noDA ys = true then .ok ys else .bad | _ => .bad) else .bad
  match S[i]? with
  | some (.fz (.dct es)) => go es
  | some (.od es) => go es
  | _ => .bad
theorem walk_keysD {K : PySem.W.Frag} {B F : Hp} {d : Addr} {o : Obj} {kvs : List (Key × V)} {es : List (Int × D)} (h : B d = some (.frz o (.dK kvs))) (r : RpK K F kvs es) : Walk K (Itk d o kvs) B F (keysD es) := by
  intro i H' e
  have hd : H' d = some (.frz o (.dK kvs)) := e _ _ h
  have kl : ∀ {kvs : List (Key × V)} {es : List (Int × D)}, RpK K F kvs es → ∀ (i : Nat) (d : D), (keysD es)[i]? = some d → ∃ (k : Int) (v : V), kvs[i]? = some ((Sum.inl k : Key), v) ∧ d = D.int k := by
    intro kvs es r
    induction es generalizing kvs with
    | nil => intro i d h; simp [keysD] at h
    | cons e es ih =>
      obtain ⟨k, d0⟩ := e
      cases r with
      | cons h1 h2 =>
        intro i d h
        cases i with
        | zero => simp [keysD] at h; exact ⟨k, _, rfl, h.symm⟩
        | succ i => exact ih h2 i d (by simpa [keysD] using h)
  have hlen : kvs.length = es.length := r.len
  refine ⟨fun x hx => ?_, fun hl => ⟨hd, by simp [keysD] at hl; omega⟩⟩
  obtain ⟨k, v, hk, rfl⟩ := kl r i x hx
  refine ⟨⟨hd, (List.getElem?_eq_some_iff.mp hk).1⟩, ?_⟩
  rintro y H'' ⟨rfl, k2, v2, h2, rfl⟩
  rw [hk] at h2
  cases h2
  exact ⟨rfl, .int k⟩
/-- a dict is locked -/
theorem Ok.lockD {K : PySem.W.Frag} {F0 H0 F H : Hp} {σ : St} {S : List Sl} {i : Nat} {s : Sl} {d : Addr} {od : Obj} {kvs : List (Key × V)} {es : List (Int × D)} (o : Ok K F0 H0 F H σ S) (hs : S[i]? = some s) (hσ : σ[i]? = some (some (.ref d)))
    (hd : H d = some (.dK kvs)) (hF : F d = some (.dK kvs) ∨ (F d = none ∧ s.own = true)) (r : RpK K F kvs es) :
    Ok K (upd F0 d (.frz od (.dK kvs))) (upd H0 d (.frz od (.dK kvs))) (upd F d (.frz od (.dK kvs))) (upd H d (.frz od (.dK kvs))) σ (S.set i (.fz (.dct es))) := by
  have lk : LockTo F (upd F d (.frz od (.dK kvs))) := fun a u h => by
    by_cases e : a = d
    · subst e
      rcases hF with hF | hF
      · rw [hF] at h; cases h; exact .inr ⟨od, kvs, rfl, upd_same⟩
      · rw [hF.1] at h; cases h
    · exact .inl (by rw [upd_ne e]; exact h)
  have ownd : ∀ (j : Nat) (t : Sl) (p : Addr), (S.set i (.fz (.dct es)))[j]? = some t → t.own = true → σ[j]? = some (some (.ref p)) → p ≠ d ∧ S[j]? = some t := by
    intro j t p h1 h2 h3
    by_cases e : i = j
    · subst e
      rw [List.getElem?_set_self (List.getElem?_eq_some_iff.mp hs).1] at h1
      cases h1; cases h2
    · rw [List.getElem?_set_ne e] at h1
      refine ⟨fun z => ?_, h1⟩
      subst z
      rcases hF with hF | hF
      · have := (o.ownNone h1 h2 h3).1
        rw [hF] at this; cases this
      · exact e (o.dist i j s t p hs h1 hF.2 h2 hσ h3)
  refine ⟨fun a u h => ?_, fun a u h => ?_, fun a u h => ?_, fun a u h => ?_, by simp [o.len], fun j t v h1 h2 => ?_, fun j t p h1 h2 h3 => ?_, fun j k t u p h1 h2 h3 h4 h5 h6 => ?_⟩
  · by_cases e : a = d
    · subst e; rw [upd_same] at h ⊢; exact h
    · rw [upd_ne e] at h ⊢; exact o.sub _ _ h
  · by_cases e : a = d
    · subst e; rw [upd_same] at h ⊢; exact h
    · rw [upd_ne e] at h ⊢; exact o.f0 _ _ h
  · by_cases e : a = d
    · subst e; rw [upd_same] at h ⊢; exact h
    · rw [upd_ne e] at h ⊢; exact o.h0 _ _ h
  · by_cases e : a = d
    · subst e; rw [upd_same, upd_same]
    · rw [upd_ne e] at h; rw [upd_ne e, upd_ne e]; exact o.old _ _ h
  · by_cases e : i = j
    · subst e
      rw [List.getElem?_set_self (List.getElem?_eq_some_iff.mp hs).1] at h1
      cases h1
      rw [hσ] at h2
      cases h2
      exact ⟨_, rfl, .dct (.inr ⟨od, upd_same⟩) (RpK.lock lk _ _ r)⟩
    · have h1' := h1
      rw [List.getElem?_set_ne e] at h1'
      have q := o.sl j t v h1' h2
      cases t with
      | un => trivial
      | fz x => obtain ⟨u, q1, q2⟩ := q; exact ⟨u, q1, Rp.lock lk _ _ q2⟩
      | ol x =>
        obtain ⟨p, vs, q1, q2, q3, q4⟩ := q
        subst q1
        have n := (ownd j _ p h1 rfl h2).1
        exact ⟨p, vs, rfl, by rw [upd_ne n]; exact q2, by rw [upd_ne n]; exact q3, RpA.lock lk _ _ q4⟩
      | od x =>
        obtain ⟨p, vs, q1, q2, q3, q4⟩ := q
        subst q1
        have n := (ownd j _ p h1 rfl h2).1
        exact ⟨p, vs, rfl, by rw [upd_ne n]; exact q2, by rw [upd_ne n]; exact q3, RpK.lock lk _ _ q4⟩
  · obtain ⟨n, h1'⟩ := ownd j t p h1 h2 h3
    rw [upd_ne n]; exact o.own j t p h1' h2 h3
  · obtain ⟨_, h1'⟩ := ownd j t p h1 h3 h5
    obtain ⟨_, h2'⟩ := ownd k u p h2 h4 h6
    exact o.dist j k t u p h1' h2' h3 h4 h5 h6
theorem lock_or {C : CL} {X : Cx} {W : WX} {i : Nat} {t : Tg} {vs : List Nat} {c : List Sl → R Bool} {m : List Sl → R D} {F0 H0 F H : Hp} {σ : St} {S : List Sl} {Q : VK} (hv : ∀ j ∈ t.slots, j ∈ vs) (o : Ok X.K F0 H0 F H σ S) (q : PostN C X.K W σ F H (mLcK i t vs c m S) Q) :
    tLockE (tLc (iKeys (tVar i)) (t.g X.K) (cT C X.K W0 c) (cE C X.K W0 m) vs) σ H Q ∨ tLc (iKeys (tVar i)) (t.g X.K) (cT C X.K W0 c) (cE C X.K W0 m) vs σ H Q := by
  have lockd : ∀ (s : Sl) (d : Addr) (kvs : List (Key × V)) (es : List (Int × D)), S[i]? = some s → σ[i]? = some (some (.ref d)) → H d = some (.dK kvs) → (F d = some (.dK kvs) ∨ (F d = none ∧ s.own = true)) → RpK X.K F kvs es →
      ∀ ys, es.length ≤ sizeLine → lcM t c m (wipeS (S.set i (.fz (.dct es))) vs) (keysD es) = .ok ys → noDA ys = true → PostN C X.K W σ F H (.ok ys) Q → tLockE (tLc (iKeys (tVar i)) (t.g X.K) (cT C X.K W0 c) (cE C X.K W0 m) vs) σ H Q := by
    intro s d kvs es hs hσ hd hF r ys hl hm hn q
    refine ⟨d, .dK kvs, hd, trivial, fun od => ?_⟩
    have o1 := o.lockD (od := od) hs hσ hd hF r
    have lk : LockTo F (upd F d (.frz od (.dK kvs))) := fun a u h => by
      by_cases e : a = d
      · subst e
        rcases hF with hF | hF
        · rw [hF] at h; cases h; exact .inr ⟨od, kvs, rfl, upd_same⟩
        · rw [hF.1] at h; cases h
      · exact .inl (by rw [upd_ne e]; exact h)
    have hfz : (upd H d (.frz od (.dK kvs))) d = some (.frz od (.dK kvs)) := upd_same
    refine ⟨_, hσ, d, od, rfl, .inl ⟨kvs, hfz, ?_⟩⟩
    intro Dl hDl
    refine lc_run o1 (walk_keysD hfz (RpK.lock lk _ _ r)) (by simpa [keysD] using hl) hDl hv hm fun F' H' ws e fd hw ra => ?_
    have nD : Dl ≠ d := fun z => by rw [z, hfz] at hDl; cases hDl
    have e1 : H' d = some (.frz od (.dK kvs)) := e.hh _ _ hfz
    refine ⟨e1, ?_⟩
    have hF' : F' d = some (.frz od (.dK kvs)) := (e.old d _ hfz).trans upd_same
    refine q Dl ws (fun a => if a = d then F d else F' a) _ ⟨fun a u h => ?_, fun a u h => ?_, fun a u h => ?_, fun a u h => ?_⟩ (by rw [upd_ne nD] at hDl; exact hDl) (by rw [if_neg nD]; exact fd) (by rw [upd_ne nD]; exact hw) (RpA.free (fun a u h => ?_) _ _ hn ra)
    · by_cases z : a = d
      · subst z; rw [if_pos rfl]; exact h
      · rw [if_neg z]; exact e.ff _ _ (by rw [upd_ne z]; exact h)
    · by_cases z : a = d
      · subst z
        rw [if_pos rfl] at h
        rw [upd_same]
        have := o.sub _ _ h
        rw [hd] at this; exact this
      · rw [if_neg z] at h
        rw [upd_ne z]; exact e.fh _ _ h
    · by_cases z : a = d
      · subst z; rw [upd_same, ← h, hd]
      · rw [upd_ne z]; exact e.hh _ _ (by rw [upd_ne z]; exact h)
    · by_cases z : a = d
      · subst z; rw [if_pos rfl]
      · rw [if_neg z]
        have := e.old a u (by rw [upd_ne z]; exact h)
        rw [upd_ne z] at this
        exact this
    · by_cases z : a = d
      · subst z; rw [hF'] at h; cases h; exact .inr ⟨od, kvs, rfl⟩
      · exact .inl (by rw [if_neg z]; exact h)
  have plain : ∀ (d : Addr) (kvs : List (Key × V)) (es : List (Int × D)) (od : Obj), S[i]? = some (.fz (.dct es)) → σ[i]? = some (some (.ref d)) → H d = some (.frz od (.dK kvs)) → RpK X.K F kvs es →
      ∀ ys, es.length ≤ sizeLine → lcM t c m (wipeS (S.set i (.fz (.dct es))) vs) (keysD es) = .ok ys → PostN C X.K W σ F H (.ok ys) Q → tLc (iKeys (tVar i)) (t.g X.K) (cT C X.K W0 c) (cE C X.K W0 m) vs σ H Q := by
    intro d kvs es od hs hσ hd r ys hl hm q
    refine ⟨_, hσ, d, od, rfl, .inl ⟨kvs, hd, ?_⟩⟩
    intro Dl hDl
    have es' : S.set i (.fz (.dct es)) = S := by
      refine List.ext_getElem (by simp) fun j h1 h2 => ?_
      by_cases e : i = j
      · subst e
        rw [List.getElem_set_self]
        have := (List.getElem?_eq_some_iff.mp hs).2
        exact this.symm
      · rw [List.getElem_set_ne e]
    rw [es'] at hm
    exact lc_run o (walk_keysD hd r) (by simpa [keysD] using hl) hDl hv hm fun F' H' ws e fd hw ra => q Dl ws F' H' e hDl fd hw ra
  unfold mLcK at q
  have hlen := o.len
  cases hs : S[i]? with
  | none => rw [hs] at q; exact q.elim
  | some s =>
    have hi : i < σ.length := by rw [hlen]; exact (List.getElem?_eq_some_iff.mp hs).1
    obtain ⟨v, hσ⟩ : ∃ v, σ[i]? = some v := ⟨_, List.getElem?_eq_getElem hi⟩
    have sl := o.sl i s v hs hσ
    rw [hs] at q
    cases s with
    | un => exact q.elim
    | ol ds => exact q.elim
    | od es =>
      obtain ⟨d, kvs, rfl, h1, h2, h3⟩ := sl
      simp only at q
      split at q
      · rename_i hl
        split at q
        · rename_i ys hm
          split at q
          · rename_i hn
            exact .inl (lockd _ d kvs es hs hσ h2 (.inr ⟨h1, rfl⟩) h3 ys hl hm hn q)
          · exact q.elim
        · exact q.elim
      · exact q.elim
    | fz x =>
      cases x with
      | dct es =>
        obtain ⟨u, rfl, h1⟩ := sl
        simp only at q
        split at q
        · rename_i hl
          split at q
          · rename_i ys hm
            split at q
            · rename_i hn
              cases h1 with
              | dct h1 h2 =>
                rcases h1 with h1 | ⟨od, h1⟩
                · exact .inl (lockd _ _ _ es hs hσ (o.sub _ _ h1) (.inl h1) h2 ys hl hm hn q)
                · exact .inr (plain _ _ es od hs hσ (o.sub _ _ h1) h2 ys hl hm q)
            · exact q.elim
          · exact q.elim
        · exact q.elim
      | _ => exact q.elim
section
variable {C : CL} {X : Cx} {W : WX} {tg elt : Expr} {ifs : List Expr} {pos : Pos}
theorem dn_lcK {iter : Expr} {i : Nat} {scope : Scope} {own : List (Str × Nat)} {t : Tg} {c : List Sl → R Bool} {m : List Sl → R D} (hx : PE X iter (tVar i)) (hc : X.calm = true) (hN : X.N.Nodup) (ok : blkC X.N X.env.scope scope own = true)
    (hv : ∀ j ∈ t.slots, j ∈ own.map (·.2))
    (hg : ∀ (s : Shared) (H : Hp) (Ca : Addr) (cl : List (Str × Addr)) (fp : List Addr), PG (X.blk s H scope (compEnvC scope cl Ca X.env) fp) tg (t.g X.K))
    (ht : ∀ (s : Shared) (H : Hp) (Ca : Addr) (cl : List (Str × Addr)) (fp : List Addr), DTs C (X.blk s H scope (compEnvC scope cl Ca X.env) fp) W0 ifs c)
    (he : ∀ (s : Shared) (H : Hp) (Ca : Addr) (cl : List (Str × Addr)) (fp : List Addr), DE C (X.blk s H scope (compEnvC scope cl Ca X.env) fp) W0 elt m) (hs : ∀ x, foldedSetIterable iter X.env x = pure x := by intro _; rfl) :
    DN C X W (.ListComp elt [⟨tg, iter, ifs, 0⟩] scope pos) (mLcK i t (own.map (·.2)) c m) := by
  have P := pe_lc (pos := pos) (te := cE C X.K W0 m) (tt := cT C X.K W0 c) hc hN (pi_keys (tg := tg) hx) (blkOk_by ok) hg (fun s H Ca cl fp => (ht s H Ca cl fp).run) (fun s H Ca cl fp => (he s H Ca cl fp).run) hs
  refine .of ⟨_, pe_or2 (pe_lock P) P, fun F0 H0 F H σ S o Q q => ?_⟩
  -- what is to be done, once the dict and what stands for it are known
  exact lock_or hv o q
/-- name = [.. for k in d ..] on one line -/
theorem ps_lcKN {iter : Expr} {i j : Nat} {y : Str} {py spos : Pos} {scope : Scope} {own : List (Str × Nat)} {t : Tg} {c : List Sl → R Bool} {m : List Sl → R D} (hx : PE X iter (tVar j)) (hc : X.calm = true) (hN : X.N.Nodup)
    (hy : X.N[i]? = some y) (hyl : X.env.scope.names.lookup y = some .local) (hsw : swapsWith (.ListComp elt [⟨tg, iter, ifs, 0⟩] scope pos) (some (.Name y py)) spos.line X.env = pure true) (ok : blkC X.N X.env.scope scope own = true)
    (hv : ∀ j ∈ t.slots, j ∈ own.map (·.2))
    (hg : ∀ (s : Shared) (H : Hp) (Ca : Addr) (cl : List (Str × Addr)) (fp : List Addr), PG (X.blk s H scope (compEnvC scope cl Ca X.env) fp) tg (t.g X.K))
    (ht : ∀ (s : Shared) (H : Hp) (Ca : Addr) (cl : List (Str × Addr)) (fp : List Addr), DTs C (X.blk s H scope (compEnvC scope cl Ca X.env) fp) W0 ifs c)
    (he : ∀ (s : Shared) (H : Hp) (Ca : Addr) (cl : List (Str × Addr)) (fp : List Addr), DE C (X.blk s H scope (compEnvC scope cl Ca X.env) fp) W0 elt m) (hs : ∀ x, foldedSetIterable iter X.env x = pure x := by intro _; rfl) :
    PS X (.Assign [.Name y py] (.ListComp elt [⟨tg, iter, ifs, 0⟩] scope pos) spos) (tAsg (cN C X.K W (mLcK j t (own.map (·.2)) c m)) (gName i)) := by
  have P := ps_setLc (te := cE C X.K W0 m) (tt := cT C X.K W0 c) hc hN hy hyl hsw (pi_keys (tg := tg) hx) (blkOk_by ok) hg (fun s H Ca cl fp => (ht s H Ca cl fp).run) (fun s H Ca cl fp => (he s H Ca cl fp).run) hs
  refine ⟨fun pins s σ H E I ⟨F0, H0, F, S, o, q⟩ => ?_⟩
  rcases lock_or hv o q with q | q
  · exact (ps_lock P).run pins s σ H E I q
  · exact P.run pins s σ H E I q
end
/-! ### min(xs, key=abs): the one that is nearest to nought -/
def distA : List Int → Bool
  | [] => true
  | x :: xs => (xs.all fun y => decide (x.natAbs ≠ y.natAbs)) && distA xs
def minA : List Int → Option Int
  | [] => none
  | x :: xs => match minA xs with
    | none => some x
    | some y => some (if x.natAbs ≤ y.natAbs then x else y)
theorem minA_spec : ∀ {xs : List Int} {m : Int}, minA xs = some m → m ∈ xs ∧ ∀ y ∈ xs, m.natAbs ≤ y.natAbs
  | [], _, h => by cases h
  | x :: xs, m, h => by
    unfold minA at h
    cases e : minA xs with
    | none =>
      rw [e] at h
      cases h
      cases xs with
      | nil => exact ⟨by simp, fun y hy => by simp at hy; rw [hy]; exact Nat.le_refl _⟩
      | cons z zs =>
        unfold minA at e
        cases e2 : minA zs with
        | none => rw [e2] at e; cases e
        | some w => rw [e2] at e; cases e
    | some w =>
      rw [e] at h
      obtain ⟨h1, h2⟩ := minA_spec e
      simp only [Option.some.injEq] at h
      subst h
      split
      · rename_i c
        refine ⟨by simp, fun y hy => ?_⟩
        rcases List.mem_cons.mp hy with rfl | hy
        · exact Nat.le_refl _
        · exact Nat.le_trans c (h2 y hy)
      · rename_i c
        refine ⟨List.mem_cons_of_mem _ h1, fun y hy => ?_⟩
        rcases List.mem_cons.mp hy with rfl | hy
        · omega
        · exact h2 y hy
theorem distA_eq : ∀ {xs : List Int} {a b : Int}, distA xs = true → a ∈ xs → b ∈ xs → a.natAbs = b.natAbs → a = b
  | [], _, _, _, h, _, _ => by cases h
  | x :: xs, a, b, d, ha, hb, e => by
    have d' : ((xs.all fun y => decide (x.natAbs ≠ y.natAbs)) && distA xs) = true := d
    rw [Bool.and_eq_true] at d'
    have hd : ∀ y ∈ xs, x.natAbs ≠ y.natAbs := fun y hy => of_decide_eq_true (List.all_eq_true.mp d'.1 y hy)
    rcases List.mem_cons.mp ha with ea | ha'
    · rcases List.mem_cons.mp hb with eb | hb'
      · exact ea.trans eb.symm
      · exact absurd (by rw [← ea]; exact e) (hd b hb')
    · rcases List.mem_cons.mp hb with eb | hb'
      · exact absurd (by rw [← eb]; exact e.symm) (hd a ha')
      · exact distA_eq d'.2 ha' hb' e
def minAbsD : D → R D
  | .lst ds => match intsD ds with
    | some ns => if distA ns = true then (match minA ns with | some m => .ok (.int m) | none => .bad) else .bad
    | none => .bad
  | _ => .bad
section
variable {C : CL} {X : Cx} {W : WX} {e : Expr} {pos p p2 kpos : Pos}
theorem de_min_abs {m : List Sl → R (List D)} (hc : X.calm = true) (hg : Gl X "min") (hg2 : Gl X "abs") (hm : X.mg "min" = none) (hm2 : X.mg "abs" = none) (ha : DA C X W [e] m)
    (hse : backTo pos (starEach [e] X.env) = [(false, eval e X.env)] := by rfl) (hpl : (backTo pos (starEach [e] X.env)).any (·.1) = false := by rfl) : DE C X W (.Call (.Name "min" p) [e] [⟨some "key", .Name "abs" p2, kpos⟩] pos) (fun S => (m S).bind (on1 minAbsD)) := by
  obtain ⟨ta, pa, ka⟩ := ha.ex
  refine .of ⟨_, pe_min_abs hc hg hg2 hm hm2 pa hse hpl, fun F0 H0 F H σ S o Q q => ?_⟩
  refine ka _ _ _ _ _ _ o _ (PostA.to (gE Q) q fun xs vs F1 H1 e1 w1 q1 => ?_)
  match xs, w1, q1 with
  | [x], w1, q1 =>
    obtain ⟨v, ev, w2⟩ := w1.c1
    subst ev
    cases x with
    | lst ds =>
      obtain ⟨a, vs, rfl, ha, ra⟩ := w2.isLst e1.fh
      simp only [on1, minAbsD] at q1
      split at q1
      · rename_i ns h
        split at q1
        · rename_i hd
          split at q1
          · rename_i m0 hm0
            obtain ⟨h1, h2⟩ := minA_spec hm0
            have ev := ints_rp ra h
            subst ev
            refine ⟨a, ns, rfl, SqL.of ha, List.length_pos_of_mem h1, fun m hm hmin => ?_⟩
            have := distA_eq hd hm h1 (Nat.le_antisymm (hmin _ h1) (h2 _ hm))
            subst this
            exact q1 _ F1 H1 (Ext.refl e1.fh) (.int _)
          · exact q1.elim
        · exact q1.elim
      · exact q1.elim
    | _ => exact q1.elim
  | [], _, q1 => exact q1.elim
  | _ :: _ :: _, _, q1 => exact q1.elim
end
end DL
/-! The data layer, part J: list.reverse, a dict of one pair, a def that calls itself. -/
namespace DL
open PySem L2
def mRev (i : Nat) (S : List Sl) : SO := match S[i]? with
  | some (.ol ds) => .nx (S.set i (.ol ds.reverse))
  | _ => .bad
theorem RpA.rev {K : PySem.W.Frag} {F : Hp} : ∀ {vs : List V} {ds : List D}, RpA K F vs ds → RpA K F vs.reverse ds.reverse
  | [], _, h => by cases h; exact .nil
  | v :: vs, _, h => by
    cases h with
    | cons h1 h2 =>
      rw [List.reverse_cons, List.reverse_cons]
      exact (RpA.rev h2).app (.one h1)
section
variable {C : CL} {X : Cx} {W : WX} {e : Expr} {pos : Pos}
theorem ds_rev {o : Expr} {i : Nat} {apos cpos : Pos} (ho : PE X o (tVar i)) (hbase : attributeBase o "reverse" X.env (eval o X.env) = eval o X.env := by rfl) (hline : (apos.endLine == cpos.line) = true := by rfl)
    (hsw : swapsWith (.Call (.Attribute o "reverse" apos) [] [] cpos) none pos.line X.env = pure false := by rfl) : DS C X W (.Expr (.Call (.Attribute o "reverse" apos) [] [] cpos) pos) (mRev i) := by
  refine .of ⟨_, ps_expr (pe_bm0 PySem.F.plainAttrs_list PySem.F.slot_list_reverse PySem.F.type_list_reverse mt_reverse ho hbase hline) hsw, fun F0 H0 F H σ S ok E q => ?_⟩
  unfold mRev at q
  split at q
  · rename_i ds hd
    obtain ⟨v, h1, a, vs, h2, h3, h4, h5⟩ := ok.at hd
    subst h2
    refine ⟨_, h1, .inl ⟨rfl, vs, SqL.of h4⟩, a, vs, rfl, rfl, h4, ?_⟩
    exact q σ F _ (ok.write hd rfl h1 rfl ⟨a, _, rfl, h3, upd_same, h5.rev⟩)
  · exact q.elim
/-- {k: v}, the key an int -/
def mOne (mk m : List Sl → R D) (S : List Sl) : R (List (Int × D)) := (mk S).bind fun k => (m S).bind fun d => match k with
  | .int i => .ok [(i, d)]
  | _ => .bad
theorem dnd_one {ek : Expr} {mk m : List Sl → R D} (hk : DR C X W ek mk) (he : DE C X W e m) : DND C X W (.Dict [some ek] [e] pos) (mOne mk m) := by
  obtain ⟨tk, pk, kk⟩ := hk.ex
  obtain ⟨te, pe, ke⟩ := he.ex
  refine .of ⟨_, pe_disp (pps_cons pk pe pps_nil) rfl rfl (by simp) (by simp), fun F0 H0 F H σ S o Q q p hp => ?_⟩
  have e0 := Ext.newO (o := HO.dK []) o.sub hp
  refine kk _ _ _ _ _ _ (o.up e0) _ ?_
  have q' : PostND C X.K W σ F H (mOne mk m S) Q := q
  unfold mOne at q'
  have hfp : F p = none := none_of o.sub hp
  cases hm : mk S with
  | ok k =>
    rw [hm] at q'
    simp only [R.bind_ok] at q'
    intro v F1 H1 e1 w1
    refine ke _ _ _ _ _ _ ((o.up e0).up e1) _ ?_
    cases hd : m S with
    | ok d =>
      rw [hd] at q'
      simp only [R.bind_ok] at q'
      intro u F2 H2 e2 r2
      cases k with
      | int i =>
        cases w1.isInt
        have h2 : H2 p = some (.dK []) := e2.hh _ _ (e1.hh _ _ upd_same)
        have f2 : F2 p = none := (e2.old p _ (e1.hh _ _ upd_same)).trans ((e1.old p _ upd_same).trans hfp)
        refine ⟨h2, [((Sum.inl i : Key), u)], rfl, by simp, ?_⟩
        have e3 : Same F2 (upd H2 p (.dK [((Sum.inl i : Key), u)])) := fun a w ha => by
          have na : a ≠ p := fun z => by rw [z, f2] at ha; cases ha
          rw [upd_ne na]; exact e2.fh _ _ ha
        refine q' p [((Sum.inl i : Key), u)] F2 (upd H2 p (.dK [((Sum.inl i : Key), u)])) ⟨?_, ?_, ?_, ?_⟩ hp f2 upd_same (.cons r2 .nil)
        · exact fun a w ha => e2.ff _ _ (e1.ff _ _ ha)
        · exact e3
        · intro a w ha
          have na : a ≠ p := fun z => by rw [z, hp] at ha; cases ha
          rw [upd_ne na]
          exact e2.hh _ _ (e1.hh _ _ (by rw [upd_ne na]; exact ha))
        · intro a w ha
          have na : a ≠ p := fun z => by rw [z, hp] at ha; cases ha
          have g0 : (upd H p (HO.dK [])) a = some w := by rw [upd_ne na]; exact ha
          exact (e2.old a w (e1.hh _ _ g0)).trans (e1.old a w g0)
      | _ => exact q'.elim
    | exc x =>
      rw [hd] at q'
      exact Wish.up q' (e0.trans e1)
    | bad => rw [hd] at q'; exact q'.elim
  | exc x =>
    rw [hm] at q'
    exact Wish.up q' e0
  | bad => rw [hm] at q'; exact q'.elim
/-- a block that promises nothing -/
theorem dss_bad {sts : List Stmt} : DSs C X W sts (fun _ => SO.bad) := ⟨⟨fun pins s σ H E I ⟨F0, H0, F, S, o, q⟩ => q.elim⟩⟩
end
end DL
/-! The data layer, part M: the mirrors computed. -/
namespace DL
open PySem L2

/-! ### evaluation -/
@[simp] theorem s_getF0 (d : D) (S : List Sl) : getF 0 (.fz d :: S) = .ok d := id rfl
@[simp] theorem s_getFs (n : Nat) (s : Sl) (S : List Sl) : getF (n + 1) (s :: S) = getF n S := id rfl
@[simp] theorem s_getV0 (d : D) (S : List Sl) : getV 0 (.fz d :: S) = .ok d := id rfl
@[simp] theorem s_getV0l (d : List D) (S : List Sl) : getV 0 (.ol d :: S) = .ok (.lst d) := id rfl
@[simp] theorem s_getV0d (d : List (Int × D)) (S : List Sl) : getV 0 (.od d :: S) = .ok (.dct d) := id rfl
@[simp] theorem s_getVs (n : Nat) (s : Sl) (S : List Sl) : getV (n + 1) (s :: S) = getV n S := id rfl
@[simp] theorem s_cst (d : D) (S : List Sl) : cst d S = .ok d := id rfl
@[simp] theorem s_m2 (g : D → D → R D) (ma mb : List Sl → R D) (S : List Sl) : m2 g ma mb S = (ma S).bind fun x => (mb S).bind fun y => g x y := id rfl
@[simp] theorem s_m1 (g : D → R D) (ma : List Sl → R D) (S : List Sl) : m1 g ma S = (ma S).bind g := id rfl
@[simp] theorem s_m3 (g g' : D → D → R D) (ma mb mc : List Sl → R D) (S : List Sl) : m3 g g' ma mb mc S = (ma S).bind fun x => (mb S).bind fun y => (g x y).bind fun z => (tBl z).bind fun k => if k = true then (mc S).bind fun w => g' y w else .ok (.bl false) := id rfl
@[simp] theorem s_mSeq (a b : List Sl → SO) (S : List Sl) : mSeq a b S = match a S with
  | .nx S' => b S'
  | r => r := id rfl
@[simp] theorem s_mSkip (S : List Sl) : mSkip S = .nx S := id rfl
@[simp] theorem s_mSet (i : Nat) (m : List Sl → R D) (S : List Sl) : mSet i m S = toS (m S) S fun d => .nx (S.set i (.fz d)) := id rfl
@[simp] theorem s_mSetN (i : Nat) (m : List Sl → R (List D)) (S : List Sl) : mSetN i m S = toSL (m S) S fun d => .nx (S.set i (.ol d)) := id rfl
@[simp] theorem s_mRet (m : List Sl → R D) (S : List Sl) : mRet m S = toS (m S) S fun d => .rt d := id rfl
@[simp] theorem s_mIfS (t : List Sl → R Bool) (a b : List Sl → SO) (S : List Sl) : mIfS t a b S = toSL (t S) S fun c => if c = true then a S else b S := id rfl
@[simp] theorem s_mIf (t : List Sl → R Bool) (a b : List Sl → R D) (S : List Sl) : mIf t a b S = (t S).bind fun c => if c = true then a S else b S := id rfl
@[simp] theorem s_tBl (b : Bool) : tBl (.bl b) = .ok b := id rfl
@[simp] theorem s_tAnd2 (ma mb : List Sl → R Bool) (S : List Sl) : tAnd2 ma mb S = (ma S).bind fun c => if c = true then mb S else .ok false := id rfl
@[simp] theorem s_tOr2 (ma mb : List Sl → R Bool) (S : List Sl) : tOr2 ma mb S = (ma S).bind fun c => if c = true then .ok true else mb S := id rfl
@[simp] theorem s_tNot1 (ma : List Sl → R Bool) (S : List Sl) : tNot1 ma S = (ma S).bind fun c => .ok (!c) := id rfl
@[simp] theorem s_mAnd2 (ma mb : List Sl → R D) (S : List Sl) : mAnd2 ma mb S = (ma S).bind fun x => (trD x).bind fun c => if c = true then mb S else .ok x := id rfl
@[simp] theorem s_mOr2 (ma mb : List Sl → R D) (S : List Sl) : mOr2 ma mb S = (ma S).bind fun x => (trD x).bind fun c => if c = true then .ok x else mb S := id rfl
@[simp] theorem s_mNot (ma : List Sl → R D) (S : List Sl) : mNot ma S = (ma S).bind fun x => (trD x).bind fun c => .ok (.bl (!c)) := id rfl
@[simp] theorem s_aNil (S : List Sl) : aNil S = .ok [] := id rfl
@[simp] theorem s_aCons (ma : List Sl → R D) (mr : List Sl → R (List D)) (S : List Sl) : aCons ma mr S = (ma S).bind fun x => (mr S).bind fun xs => .ok (x :: xs) := id rfl
@[simp] theorem s_aLim (ma : List Sl → R (List D)) (S : List Sl) : aLim ma S = (ma S).bind lim := id rfl
@[simp] theorem s_oNo (S : List Sl) : oNo S = .ok none := id rfl
@[simp] theorem s_oSome (m : List Sl → R D) (S : List Sl) : oSome m S = (m S).bind toI := id rfl
@[simp] theorem s_toI (i : Int) : toI (.int i) = .ok (some i) := id rfl
@[simp] theorem s_mSl (ma : List Sl → R D) (ml mh : List Sl → R (Option Int)) (S : List Sl) : mSl ma ml mh S = (ma S).bind fun x => (ml S).bind fun l => (mh S).bind fun h => slD l h x := id rfl
@[simp] theorem s_mItems (ma : List Sl → R D) (S : List Sl) : mItems ma S = (ma S).bind itemsD := id rfl
@[simp] theorem s_mFor (t : Tg) (mi : List Sl → R (List D)) (body : List Sl → SO) (S : List Sl) : mFor t mi body S = toSL (mi S) S fun ds => loopM t body ds S := id rfl
@[simp] theorem s_on1 (g : D → R D) (x : D) : on1 g [x] = g x := id rfl
@[simp] theorem s_addI (i j : Int) : addD (.int i) (.int j) = .ok (.int (i + j)) := id rfl
@[simp] theorem s_subI (i j : Int) : subD (.int i) (.int j) = .ok (.int (i - j)) := id rfl
@[simp] theorem s_negI (i : Int) : negD (.int i) = .ok (.int (-i)) := id rfl
@[simp] theorem s_eqI (i j : Int) : eqD (.int i) (.int j) = .ok (.bl (decide (i = j))) := id rfl
@[simp] theorem s_eqS (i j : Str) : eqD (.str i) (.str j) = .ok (.bl (decide (i = j))) := id rfl
@[simp] theorem s_eqB (a b : Bool) : eqD (.bl a) (.bl b) = .ok (.bl (decide (a = b))) := by cases a <;> cases b <;> rfl
@[simp] theorem s_neD (x y : D) : neD x y = (eqD x y).bind notD := id rfl
@[simp] theorem s_notD (b : Bool) : notD (.bl b) = .ok (.bl (!b)) := id rfl
@[simp] theorem s_ltI (i j : Int) : ltD (.int i) (.int j) = .ok (.bl (decide (i < j))) := id rfl
@[simp] theorem s_leI (i j : Int) : leD (.int i) (.int j) = .ok (.bl (decide (i ≤ j))) := id rfl
@[simp] theorem s_gtI (i j : Int) : gtD (.int i) (.int j) = .ok (.bl (decide (j < i))) := id rfl
@[simp] theorem s_geI (i j : Int) : geD (.int i) (.int j) = .ok (.bl (decide (j ≤ i))) := id rfl
@[simp] theorem s_isN (x : D) : isD x .non = .ok (.bl (isNonD x)) := by cases x <;> rfl
@[simp] theorem s_isNotN (x : D) : isNotD x .non = .ok (.bl (!isNonD x)) := by unfold isNotD; rw [s_isN]; rfl
@[simp] theorem s_nonN : isNonD .non = true := id rfl
@[simp] theorem s_nonI (i : Int) : isNonD (.int i) = false := id rfl
@[simp] theorem s_nonB (i : Bool) : isNonD (.bl i) = false := id rfl
@[simp] theorem s_nonL (i : List D) : isNonD (.lst i) = false := id rfl
@[simp] theorem s_nonT (i : List D) : isNonD (.tup i) = false := id rfl
@[simp] theorem s_nonK (i : List (Int × D)) : isNonD (.dct i) = false := id rfl
@[simp] theorem s_trB (b : Bool) : trD (.bl b) = .ok b := id rfl
@[simp] theorem s_trI (b : Int) : trD (.int b) = .ok (b != 0) := id rfl
@[simp] theorem s_trN : trD .non = .ok false := id rfl
@[simp] theorem s_trL (b : List D) : trD (.lst b) = .ok (!b.isEmpty) := id rfl
@[simp] theorem s_trT (b : List D) : trD (.tup b) = .ok (!b.isEmpty) := id rfl
@[simp] theorem s_trSc (b : List Int) : trD (.scr b) = .ok (!b.isEmpty) := id rfl
@[simp] theorem s_lenL (b : List D) : lenD (.lst b) = .ok (.int b.length) := id rfl
@[simp] theorem s_lenT (b : List D) : lenD (.tup b) = .ok (.int b.length) := id rfl
@[simp] theorem s_lenSc (b : List Int) : lenD (.scr b) = .ok (.int b.length) := id rfl
@[simp] theorem s_lenK (b : List (Int × D)) : lenD (.dct b) = .ok (.int b.length) := id rfl
@[simp] theorem s_absI (i : Int) : absD (.int i) = .ok (.int (if i < 0 then -i else i)) := id rfl
@[simp] theorem s_ixL (b : List D) (i : Int) : ixD (.lst b) (.int i) = optD (atI b i) := id rfl
@[simp] theorem s_ixT (b : List D) (i : Int) : ixD (.tup b) (.int i) = optD (atI b i) := id rfl
@[simp] theorem s_ixSc (b : List Int) (i : Int) : ixD (.scr b) (.int i) = optD ((atI b i).map D.int) := id rfl
@[simp] theorem s_ixK (b : List (Int × D)) (i : Int) : ixD (.dct b) (.int i) = optD (keyD b i) := id rfl
@[simp] theorem s_optS (d : D) : optD (some d) = .ok d := id rfl
theorem modI {i j : Int} (h : 0 < j) : modD (.int i) (.int j) = .ok (.int (i % j)) := if_pos h
theorem fdivI {i j : Int} (h : 0 < j) (h2 : j < 1073741824) : fdivD (.int i) (.int j) = .ok (.int (i / j)) := if_pos ⟨h, h2⟩
theorem mulL {i j : Int} (h : -(2 ^ 64) < i) (h2 : i < 2 ^ 64) : mulD (.int i) (.int j) = .ok (.int (i * j)) := if_pos (.inl ⟨h, h2⟩)
theorem mulR {i j : Int} (h : -(2 ^ 64) < j) (h2 : j < 2 ^ 64) : mulD (.int i) (.int j) = .ok (.int (i * j)) := if_pos (.inr ⟨h, h2⟩)
theorem powI {i j : Int} (h : 0 ≤ j) (h2 : j ≤ 1000000) (h3 : i.natAbs < 2 ^ 64) : powD (.int i) (.int j) = .ok (.int (i ^ j.toNat)) := if_pos ⟨h, h2, h3⟩
theorem limS {ds : List D} (h : ds.length ≤ 100000) : lim ds = .ok ds := if_pos (Nat.le_trans h (by decide))
theorem lenS {s : Str} (h : s.length ≤ sizeLine) : lenD (.str s) = .ok (.int s.length) := if_pos h
theorem slS {s : Str} {l h : Option Int} (c : s.length ≤ sizeLine) : slD l h (.str s) = .ok (.str (cutS s l h)) := if_pos c

/-! ### places of a list -/
theorem atI_lt {α : Type} {xs : List α} {i : Int} (h0 : 0 ≤ i) (h : i < xs.length) : atI xs i = some (xs[i.toNat]'(by omega)) := by
  unfold atI ixN
  rw [if_pos h0, if_pos h]
  exact List.getElem?_eq_getElem _
theorem atI_neg {α : Type} {xs : List α} {i : Int} (h0 : i < 0) (h : -(xs.length : Int) ≤ i) : atI xs i = some (xs[(i + xs.length).toNat]'(by omega)) := by
  unfold atI ixN
  rw [if_neg (by omega), if_pos h]
  exact List.getElem?_eq_getElem _

/-! ### isinstance -/
theorem kb_non_int : kitB "NoneType" "int" = some false := by decide +kernel
@[simp] theorem isi_non_int : isiD "int" .non = .ok (.bl false) := by unfold isiD; simp only [tyN, kb_non_int]
theorem kb_bl_int : kitB "bool" "int" = some true := by decide +kernel
@[simp] theorem isi_bl_int (x : Bool) : isiD "int" (.bl x) = .ok (.bl true) := by unfold isiD; simp only [tyN, kb_bl_int]
theorem kb_int_int : kitB "int" "int" = some true := by decide +kernel
@[simp] theorem isi_int_int (x : Int) : isiD "int" (.int x) = .ok (.bl true) := by unfold isiD; simp only [tyN, kb_int_int]
theorem kb_str_int : kitB "str" "int" = some false := by decide +kernel
@[simp] theorem isi_str_int (x : Str) : isiD "int" (.str x) = .ok (.bl false) := by unfold isiD; simp only [tyN, kb_str_int]
theorem kb_lst_int : kitB "list" "int" = some false := by decide +kernel
@[simp] theorem isi_lst_int (x : List D) : isiD "int" (.lst x) = .ok (.bl false) := by unfold isiD; simp only [tyN, kb_lst_int]
theorem kb_tup_int : kitB "tuple" "int" = some false := by decide +kernel
@[simp] theorem isi_tup_int (x : List D) : isiD "int" (.tup x) = .ok (.bl false) := by unfold isiD; simp only [tyN, kb_tup_int]
theorem kb_dct_int : kitB "dict" "int" = some false := by decide +kernel
@[simp] theorem isi_dct_int (x : List (Int × D)) : isiD "int" (.dct x) = .ok (.bl false) := by unfold isiD; simp only [tyN, kb_dct_int]
theorem kb_non_bool : kitB "NoneType" "bool" = some false := by decide +kernel
@[simp] theorem isi_non_bool : isiD "bool" .non = .ok (.bl false) := by unfold isiD; simp only [tyN, kb_non_bool]
theorem kb_bl_bool : kitB "bool" "bool" = some true := by decide +kernel
@[simp] theorem isi_bl_bool (x : Bool) : isiD "bool" (.bl x) = .ok (.bl true) := by unfold isiD; simp only [tyN, kb_bl_bool]
theorem kb_int_bool : kitB "int" "bool" = some false := by decide +kernel
@[simp] theorem isi_int_bool (x : Int) : isiD "bool" (.int x) = .ok (.bl false) := by unfold isiD; simp only [tyN, kb_int_bool]
theorem kb_str_bool : kitB "str" "bool" = some false := by decide +kernel
@[simp] theorem isi_str_bool (x : Str) : isiD "bool" (.str x) = .ok (.bl false) := by unfold isiD; simp only [tyN, kb_str_bool]
theorem kb_lst_bool : kitB "list" "bool" = some false := by decide +kernel
@[simp] theorem isi_lst_bool (x : List D) : isiD "bool" (.lst x) = .ok (.bl false) := by unfold isiD; simp only [tyN, kb_lst_bool]
theorem kb_tup_bool : kitB "tuple" "bool" = some false := by decide +kernel
@[simp] theorem isi_tup_bool (x : List D) : isiD "bool" (.tup x) = .ok (.bl false) := by unfold isiD; simp only [tyN, kb_tup_bool]
theorem kb_dct_bool : kitB "dict" "bool" = some false := by decide +kernel
@[simp] theorem isi_dct_bool (x : List (Int × D)) : isiD "bool" (.dct x) = .ok (.bl false) := by unfold isiD; simp only [tyN, kb_dct_bool]
theorem kb_non_str : kitB "NoneType" "str" = some false := by decide +kernel
@[simp] theorem isi_non_str : isiD "str" .non = .ok (.bl false) := by unfold isiD; simp only [tyN, kb_non_str]
theorem kb_bl_str : kitB "bool" "str" = some false := by decide +kernel
@[simp] theorem isi_bl_str (x : Bool) : isiD "str" (.bl x) = .ok (.bl false) := by unfold isiD; simp only [tyN, kb_bl_str]
theorem kb_int_str : kitB "int" "str" = some false := by decide +kernel
@[simp] theorem isi_int_str (x : Int) : isiD "str" (.int x) = .ok (.bl false) := by unfold isiD; simp only [tyN, kb_int_str]
theorem kb_str_str : kitB "str" "str" = some true := by decide +kernel
@[simp] theorem isi_str_str (x : Str) : isiD "str" (.str x) = .ok (.bl true) := by unfold isiD; simp only [tyN, kb_str_str]
theorem kb_lst_str : kitB "list" "str" = some false := by decide +kernel
@[simp] theorem isi_lst_str (x : List D) : isiD "str" (.lst x) = .ok (.bl false) := by unfold isiD; simp only [tyN, kb_lst_str]
theorem kb_tup_str : kitB "tuple" "str" = some false := by decide +kernel
@[simp] theorem isi_tup_str (x : List D) : isiD "str" (.tup x) = .ok (.bl false) := by unfold isiD; simp only [tyN, kb_tup_str]
theorem kb_dct_str : kitB "dict" "str" = some false := by decide +kernel
@[simp] theorem isi_dct_str (x : List (Int × D)) : isiD "str" (.dct x) = .ok (.bl false) := by unfold isiD; simp only [tyN, kb_dct_str]
theorem kb_non_list : kitB "NoneType" "list" = some false := by decide +kernel
@[simp] theorem isi_non_list : isiD "list" .non = .ok (.bl false) := by unfold isiD; simp only [tyN, kb_non_list]
theorem kb_bl_list : kitB "bool" "list" = some false := by decide +kernel
@[simp] theorem isi_bl_list (x : Bool) : isiD "list" (.bl x) = .ok (.bl false) := by unfold isiD; simp only [tyN, kb_bl_list]
theorem kb_int_list : kitB "int" "list" = some false := by decide +kernel
@[simp] theorem isi_int_list (x : Int) : isiD "list" (.int x) = .ok (.bl false) := by unfold isiD; simp only [tyN, kb_int_list]
theorem kb_str_list : kitB "str" "list" = some false := by decide +kernel
@[simp] theorem isi_str_list (x : Str) : isiD "list" (.str x) = .ok (.bl false) := by unfold isiD; simp only [tyN, kb_str_list]
theorem kb_lst_list : kitB "list" "list" = some true := by decide +kernel
@[simp] theorem isi_lst_list (x : List D) : isiD "list" (.lst x) = .ok (.bl true) := by unfold isiD; simp only [tyN, kb_lst_list]
theorem kb_tup_list : kitB "tuple" "list" = some false := by decide +kernel
@[simp] theorem isi_tup_list (x : List D) : isiD "list" (.tup x) = .ok (.bl false) := by unfold isiD; simp only [tyN, kb_tup_list]
theorem kb_dct_list : kitB "dict" "list" = some false := by decide +kernel
@[simp] theorem isi_dct_list (x : List (Int × D)) : isiD "list" (.dct x) = .ok (.bl false) := by unfold isiD; simp only [tyN, kb_dct_list]
theorem kb_non_tuple : kitB "NoneType" "tuple" = some false := by decide +kernel
@[simp] theorem isi_non_tuple : isiD "tuple" .non = .ok (.bl false) := by unfold isiD; simp only [tyN, kb_non_tuple]
theorem kb_bl_tuple : kitB "bool" "tuple" = some false := by decide +kernel
@[simp] theorem isi_bl_tuple (x : Bool) : isiD "tuple" (.bl x) = .ok (.bl false) := by unfold isiD; simp only [tyN, kb_bl_tuple]
theorem kb_int_tuple : kitB "int" "tuple" = some false := by decide +kernel
@[simp] theorem isi_int_tuple (x : Int) : isiD "tuple" (.int x) = .ok (.bl false) := by unfold isiD; simp only [tyN, kb_int_tuple]
theorem kb_str_tuple : kitB "str" "tuple" = some false := by decide +kernel
@[simp] theorem isi_str_tuple (x : Str) : isiD "tuple" (.str x) = .ok (.bl false) := by unfold isiD; simp only [tyN, kb_str_tuple]
theorem kb_lst_tuple : kitB "list" "tuple" = some false := by decide +kernel
@[simp] theorem isi_lst_tuple (x : List D) : isiD "tuple" (.lst x) = .ok (.bl false) := by unfold isiD; simp only [tyN, kb_lst_tuple]
theorem kb_tup_tuple : kitB "tuple" "tuple" = some true := by decide +kernel
@[simp] theorem isi_tup_tuple (x : List D) : isiD "tuple" (.tup x) = .ok (.bl true) := by unfold isiD; simp only [tyN, kb_tup_tuple]
theorem kb_dct_tuple : kitB "dict" "tuple" = some false := by decide +kernel
@[simp] theorem isi_dct_tuple (x : List (Int × D)) : isiD "tuple" (.dct x) = .ok (.bl false) := by unfold isiD; simp only [tyN, kb_dct_tuple]
theorem kb_non_dict : kitB "NoneType" "dict" = some false := by decide +kernel
@[simp] theorem isi_non_dict : isiD "dict" .non = .ok (.bl false) := by unfold isiD; simp only [tyN, kb_non_dict]
theorem kb_bl_dict : kitB "bool" "dict" = some false := by decide +kernel
@[simp] theorem isi_bl_dict (x : Bool) : isiD "dict" (.bl x) = .ok (.bl false) := by unfold isiD; simp only [tyN, kb_bl_dict]
theorem kb_int_dict : kitB "int" "dict" = some false := by decide +kernel
@[simp] theorem isi_int_dict (x : Int) : isiD "dict" (.int x) = .ok (.bl false) := by unfold isiD; simp only [tyN, kb_int_dict]
theorem kb_str_dict : kitB "str" "dict" = some false := by decide +kernel
@[simp] theorem isi_str_dict (x : Str) : isiD "dict" (.str x) = .ok (.bl false) := by unfold isiD; simp only [tyN, kb_str_dict]
theorem kb_lst_dict : kitB "list" "dict" = some false := by decide +kernel
@[simp] theorem isi_lst_dict (x : List D) : isiD "dict" (.lst x) = .ok (.bl false) := by unfold isiD; simp only [tyN, kb_lst_dict]
theorem kb_tup_dict : kitB "tuple" "dict" = some false := by decide +kernel
@[simp] theorem isi_tup_dict (x : List D) : isiD "dict" (.tup x) = .ok (.bl false) := by unfold isiD; simp only [tyN, kb_tup_dict]
theorem kb_dct_dict : kitB "dict" "dict" = some true := by decide +kernel
@[simp] theorem isi_dct_dict (x : List (Int × D)) : isiD "dict" (.dct x) = .ok (.bl true) := by unfold isiD; simp only [tyN, kb_dct_dict]
theorem atI_mem {α : Type} {xs : List α} {i : Int} (h0 : 0 ≤ i) (h : i < xs.length) : ∃ x, x ∈ xs ∧ atI xs i = some x := ⟨_, List.getElem_mem _, atI_lt h0 h⟩
theorem md_lo (a : Int) {b : Int} (h : 0 < b) : 0 ≤ a % b := Int.emod_nonneg _ (Int.ne_of_gt h)
theorem md_hi (a : Int) {b : Int} (h : 0 < b) : a % b < b := Int.emod_lt_of_pos _ h
/-! ### loops -/
/-- a loop's end: `P` of the items that are left and the state; `Q` of what comes out -/
theorem loop_wp {t : Tg} {body : List Sl → SO} (P : List D → List Sl → Prop) (Q : SO → Prop) (h0 : ∀ S, P [] S → Q (.nx S))
    (h1 : ∀ d ds S, P (d :: ds) S → ∃ S1, t.put d S = .ok S1 ∧ ((∃ S2, (body S1 = .nx S2 ∨ body S1 = .ct S2) ∧ P ds S2) ∨ (∃ S2, body S1 = .bk S2 ∧ Q (.nx S2)) ∨ (∃ d, body S1 = .rt d ∧ Q (.rt d)) ∨ (∃ e S2, body S1 = .ex e S2 ∧ Q (.ex e S2)))) :
    ∀ ds S, P ds S → Q (loopM t body ds S)
  | [], S, h => h0 S h
  | d :: ds, S, h => by
    obtain ⟨S1, e1, h⟩ := h1 d ds S h
    unfold loopM
    simp only [e1]
    rcases h with ⟨S2, e2, p⟩ | ⟨S2, e2, p⟩ | ⟨r, e2, p⟩ | ⟨e, S2, e2, p⟩
    · rcases e2 with e2 | e2 <;> simp only [e2] <;> exact loop_wp P Q h0 h1 ds S2 p
    · simp only [e2]; exact p
    · simp only [e2]; exact p
    · simp only [e2]; exact p
@[simp] theorem put_one (j : Nat) (d : D) (S : List Sl) : (Tg.one j).put d S = .ok (S.set j (.fz d)) := id rfl

theorem range_split {v x : Nat} {pre post : List Nat} (h : List.range v = pre ++ x :: post) : pre.length = x ∧ x < v := by
  have h1 : x < v := List.mem_range.mp (by rw [h]; simp)
  have h2 : (List.range v)[pre.length]? = some x := by rw [h]; simp
  rw [List.getElem?_eq_some_iff] at h2
  obtain ⟨h3, h4⟩ := h2
  rw [List.getElem_range] at h4
  exact ⟨h4, h1⟩
/-- a loop that runs to its end; `I` of the items done and the state -/
theorem loop_nx {ι : Type} {t : Tg} {body : List Sl → SO} (f : ι → D) (I : List ι → List Sl → Prop) {xs : List ι} {S : List Sl}
    (h : ∀ pre x post S, xs = pre ++ x :: post → I pre S → ∃ S1 S2, t.put (f x) S = .ok S1 ∧ (body S1 = .nx S2 ∨ body S1 = .ct S2) ∧ I (pre ++ [x]) S2) (h0 : I [] S) : ∃ S', loopM t body (xs.map f) S = .nx S' ∧ I xs S' := by
  refine loop_wp (t := t) (body := body) (fun ds S => ∃ pre post, xs = pre ++ post ∧ ds = post.map f ∧ I pre S) (fun r => ∃ S', r = .nx S' ∧ I xs S') ?_ ?_ (xs.map f) S ⟨[], xs, rfl, rfl, h0⟩
  · rintro S ⟨pre, post, e1, e2, i⟩
    cases post with
    | cons _ _ => cases e2
    | nil => rw [List.append_nil] at e1; subst e1; exact ⟨S, rfl, i⟩
  · rintro d ds S ⟨pre, post, e1, e2, i⟩
    cases post with
    | nil => cases e2
    | cons x post =>
      cases e2
      obtain ⟨S1, S2, a, b, c⟩ := h pre x post S e1 i
      exact ⟨S1, a, .inl ⟨S2, b, pre ++ [x], post, by rw [e1]; simp, rfl, c⟩⟩
/-- a loop that may return -/
theorem loop_rt {ι : Type} {t : Tg} {body : List Sl → SO} (f : ι → D) (I : List ι → List Sl → Prop) (Q : List ι → ι → D → Prop) {xs : List ι} {S : List Sl}
    (h : ∀ pre x post S, xs = pre ++ x :: post → I pre S → ∃ S1, t.put (f x) S = .ok S1 ∧ ((∃ S2, (body S1 = .nx S2 ∨ body S1 = .ct S2) ∧ I (pre ++ [x]) S2) ∨ ∃ d, body S1 = .rt d ∧ Q pre x d)) (h0 : I [] S) :
    (∃ S', loopM t body (xs.map f) S = .nx S' ∧ I xs S') ∨ ∃ pre x post d, xs = pre ++ x :: post ∧ loopM t body (xs.map f) S = .rt d ∧ Q pre x d := by
  refine loop_wp (t := t) (body := body) (fun ds S => ∃ pre post, xs = pre ++ post ∧ ds = post.map f ∧ I pre S) (fun r => (∃ S', r = .nx S' ∧ I xs S') ∨ ∃ pre x post d, xs = pre ++ x :: post ∧ r = .rt d ∧ Q pre x d) ?_ ?_ (xs.map f) S ⟨[], xs, rfl, rfl, h0⟩
  · rintro S ⟨pre, post, e1, e2, i⟩
    cases post with
    | cons _ _ => cases e2
    | nil => rw [List.append_nil] at e1; subst e1; exact .inl ⟨S, rfl, i⟩
  · rintro d ds S ⟨pre, post, e1, e2, i⟩
    cases post with
    | nil => cases e2
    | cons x post =>
      cases e2
      obtain ⟨S1, a, ⟨S2, b, c⟩ | ⟨d, b, c⟩⟩ := h pre x post S e1 i
      · exact ⟨S1, a, .inl ⟨S2, b, pre ++ [x], post, by rw [e1]; simp, rfl, c⟩⟩
      · exact ⟨S1, a, .inr (.inr (.inl ⟨d, b, .inr ⟨pre, x, post, d, e1, rfl, c⟩⟩))⟩
/-! ### comprehensions -/
theorem lcM_eq {ι : Type} {t : Tg} {c : List Sl → R Bool} {m : List Sl → R D} {S : List Sl} (f g : ι → D) (p : ι → Bool) : ∀ xs : List ι, (∀ x ∈ xs, ∃ S1, t.put (f x) S = .ok S1 ∧ c S1 = .ok (p x) ∧ (p x = true → m S1 = .ok (g x))) → lcM t c m S (xs.map f) = .ok ((xs.filter p).map g)
  | [], _ => rfl
  | x :: xs, h => by
    obtain ⟨S1, a, b, d⟩ := h x (List.mem_cons_self ..)
    have ih := lcM_eq f g p xs fun y hy => h y (List.mem_cons_of_mem _ hy)
    rw [List.map_cons, lcM, a]
    simp only [R.bind_ok]
    rw [b]
    show ((R.ok (p x)).bind _) = _
    rw [R.bind_ok]
    cases e : p x with
    | true =>
      rw [if_pos rfl, d e, List.filter_cons_of_pos (by rw [e]), ih]
      rfl
    | false =>
      rw [if_neg (by decide), List.filter_cons_of_neg (by rw [e]; decide), ih]
theorem mLc_eq {ι : Type} {t : Tg} {vs : List Nat} {mi : List Sl → R (List D)} {c : List Sl → R Bool} {m : List Sl → R D} {S : List Sl} (xs : List ι) (f g : ι → D) (p : ι → Bool) (hi : mi S = .ok (xs.map f)) (hl : xs.length ≤ sizeLine)
    (h : ∀ x ∈ xs, ∃ S1, t.put (f x) (wipeS S vs) = .ok S1 ∧ c S1 = .ok (p x) ∧ (p x = true → m S1 = .ok (g x))) : mLc t vs mi c m S = .ok ((xs.filter p).map g) := by
  unfold mLc
  rw [hi, R.bind_ok, List.length_map, if_pos hl, lcM_eq f g p xs h]
theorem mLc_map {ι : Type} {t : Tg} {vs : List Nat} {mi : List Sl → R (List D)} {m : List Sl → R D} {S : List Sl} (xs : List ι) (f g : ι → D) (hi : mi S = .ok (xs.map f)) (hl : xs.length ≤ sizeLine)
    (h : ∀ x ∈ xs, ∃ S1, t.put (f x) (wipeS S vs) = .ok S1 ∧ m S1 = .ok (g x)) : mLc t vs mi mYes m S = .ok (xs.map g) := by
  have := mLc_eq (c := mYes) xs f g (fun _ => true) hi hl fun x hx => by
    obtain ⟨S1, a, b⟩ := h x hx
    exact ⟨S1, a, rfl, fun _ => b⟩
  rw [this]
  congr 1
  congr 1
  exact List.filter_eq_self.mpr fun _ _ => rfl
theorem any_map {ι : Type} (xs : List ι) (p : ι → Bool) : anyD (.lst (xs.map fun x => .bl (p x))) = .ok (.bl (xs.any p)) := by
  have : boolsD (xs.map fun x => .bl (p x)) = some (xs.map p) := by
    induction xs with
    | nil => rfl
    | cons x xs ih => rw [List.map_cons, boolsD, ih]; rfl
  unfold anyD
  simp only [this]
  congr 2
  simp [Function.comp_def]
theorem all_map {ι : Type} (xs : List ι) (p : ι → Bool) : allD (.lst (xs.map fun x => .bl (p x))) = .ok (.bl (xs.all p)) := by
  have : boolsD (xs.map fun x => .bl (p x)) = some (xs.map p) := by
    induction xs with
    | nil => rfl
    | cons x xs ih => rw [List.map_cons, boolsD, ih]; rfl
  unfold allD
  simp only [this]
  congr 2
  simp [Function.comp_def]
theorem in_aux (l : Int) (m : List Int) (b : Bool) : inSeq (.int l) (m.map D.int) b = .ok (.bl (decide (l ∈ m))) := by
  have h : (m.map D.int).all flatD = true := by
    rw [List.all_eq_true]
    intro d hd
    obtain ⟨i, _, rfl⟩ := List.mem_map.mp hd
    rfl
  unfold inSeq
  rw [if_pos (by rw [h]; rfl)]
  congr 2
  rw [List.any_map, Bool.eq_iff_iff]
  simp [Function.comp_def, eqF]
theorem in_lst (l : Int) (m : List Int) : inD (.int l) (.lst (m.map D.int)) = .ok (.bl (decide (l ∈ m))) := in_aux l m true
theorem in_tup (l : Int) (m : List Int) : inD (.int l) (.tup (m.map D.int)) = .ok (.bl (decide (l ∈ m))) := in_aux l m false
theorem rng1_eq {n : Int} (h : n < 2 ^ 62) (h2 : -(2 ^ 62) ≤ n) : rng1 [.int n] = .ok ((List.range n.toNat).map fun i : Nat => D.int (i : Int)) := by
  unfold rng1
  simp only
  rw [if_pos ⟨h2, h⟩]
  unfold rangeL
  simp
theorem rng1_nat {q : Nat} (h : q ≤ 1000000) : rng1 [.int (q : Int)] = .ok ((List.range q).map fun i : Nat => D.int (i : Int)) := by
  have := rng1_eq (n := (q : Int)) (by omega) (by omega)
  rw [Int.toNat_natCast] at this
  exact this
theorem rng2_eq {i n : Int} (h0 : -(2 ^ 62) ≤ i) (h1 : i < 2 ^ 62) (h : n < 2 ^ 62) (h2 : -(2 ^ 62) ≤ n) : rng2 [.int i, .int n] = .ok ((List.range (n - i).toNat).map fun k : Nat => D.int (i + k)) := by
  unfold rng2
  simp only
  rw [if_pos ⟨h0, h1, h2, h⟩]
  unfold rangeL
  simp
theorem mApp_eq {i : Nat} {m : List Sl → R D} {S : List Sl} {ds : List D} {d : D} (h : S[i]? = some (.ol ds)) (hm : m S = .ok d) (hl : ds.length < sizeLine) : mApp i m S = .nx (S.set i (.ol (ds ++ [d]))) := by
  unfold mApp
  rw [h]
  simp only [hm, toS_ok, if_pos hl]
theorem big : (100000 : Nat) ≤ sizeLine := by decide
theorem add_lst {xs ys : List D} (h : xs.length + ys.length ≤ sizeLine) : addD (.lst xs) (.lst ys) = .ok (.lst (xs ++ ys)) := if_pos h
theorem add_tup {xs ys : List D} (h : xs.length + ys.length ≤ sizeLine) : addD (.tup xs) (.tup ys) = .ok (.tup (xs ++ ys)) := if_pos h
@[simp] theorem s_tupL (ds : List D) : tupD (.lst ds) = .ok (.tup ds) := id rfl
@[simp] theorem s_tupT (ds : List D) : tupD (.tup ds) = .ok (.tup ds) := id rfl
@[simp] theorem s_itemsL (ds : List D) : itemsD (.lst ds) = .ok ds := id rfl
@[simp] theorem s_itemsT (ds : List D) : itemsD (.tup ds) = .ok ds := id rfl
@[simp] theorem s_lstL (ds : List D) : lstD (.lst ds) = .ok ds := id rfl
@[simp] theorem s_lstT (ds : List D) : lstD (.tup ds) = .ok ds := id rfl
@[simp] theorem s_onN (g : D → R (List D)) (x : D) : onN g [x] = g x := id rfl
@[simp] theorem s_mFrz0 (ds : List D) (S : List Sl) : mFrz 0 (.ol ds :: S) = .nx (.fz (.lst ds) :: S) := id rfl
theorem mFrz_l {i : Nat} {S : List Sl} {ds : List D} (h : S[i]? = some (.ol ds)) : mFrz i S = .nx (S.set i (.fz (.lst ds))) := by unfold mFrz; rw [h]
theorem mFrz_d {i : Nat} {S : List Sl} {ds : List (Int × D)} (h : S[i]? = some (.od ds)) : mFrz i S = .nx (S.set i (.fz (.dct ds))) := by unfold mFrz; rw [h]
theorem mFrz_f {i : Nat} {S : List Sl} {d : D} (h : S[i]? = some (.fz d)) : mFrz i S = .nx S := by unfold mFrz; rw [h]
/-- a statement, and what comes after it -/
theorem seq_nx {a b : List Sl → SO} {S S1 : List Sl} {r : SO} (h : a S = .nx S1) (h2 : b S1 = r) : mSeq a b S = r := by rw [s_mSeq, h]; exact h2
theorem seq_rt {a b : List Sl → SO} {S : List Sl} {d : D} (h : a S = .rt d) : mSeq a b S = .rt d := by rw [s_mSeq, h]
theorem run_rt {n np : Nat} {m : List Sl → SO} {ds : List D} {d : D} (h : m (ds.map Sl.fz ++ List.replicate (n - np) Sl.un) = .rt d) : runDef n np m ds = .ok d := by unfold runDef; rw [h]
theorem run_nx {n np : Nat} {m : List Sl → SO} {ds : List D} {S : List Sl} (h : m (ds.map Sl.fz ++ List.replicate (n - np) Sl.un) = .nx S) : runDef n np m ds = .ok .non := by unfold runDef; rw [h]

/-! ### the script's cells -/
def mCell : List Sl → SO :=
  (mSeq (mIfS (fun S => ((getV 0) S).bind trD) (mRet (m2 ixD (getV 0) (m2 modD (getV 1) (fun S => ((aCons (getV 0) aNil) S).bind (on1 lenD))))) mSkip) (mRet (cst (.int 0))))
def cellZ (ns : List Int) (k : Int) : Int := if ns = [] then 0 else match atI ns (k % ns.length) with
  | some x => x
  | none => 0
theorem cell_eq (ns : List Int) (k : Int) : runDef 2 2 mCell [.scr ns, .int k] = .ok (.int (cellZ ns k)) := by
  cases ns with
  | nil => rfl
  | cons n ns =>
    have h0 : (0 : Int) < ((n :: ns).length : Int) := by simp [Int.natCast_add] <;> omega
    have h1 := Int.emod_nonneg k (Int.ne_of_gt h0)
    have h2 := Int.emod_lt_of_pos k h0
    have e := atI_lt (xs := n :: ns) h1 h2
    simp only [runDef, mCell, s_mSeq, s_mIfS, s_mRet, List.map_cons, List.map_nil, Nat.sub_self, List.replicate_zero, List.append_nil, s_getV0, s_getVs, R.bind_ok, s_trSc, List.isEmpty_cons, Bool.not_false, toSL_ok, if_true, s_m2, s_aCons, s_aNil, s_on1, s_lenSc, modI h0, s_ixSc, e, Option.map_some, s_optS, toS_ok, cellZ, reduceCtorEq, if_false]
def mMix (f : List D → R D) : List Sl → SO :=
  (mSeq (mSet 2 (m2 modD (m2 addD (fun S => ((aCons (getF 0) (aCons (getF 1) aNil)) S).bind f) (m2 mulD (cst (.int 104729)) (m2 addD (getV 1) (cst (.int 1))))) (cst (.int 4294967291)))) (mSeq (mSet 2 (m2 modD (m2 mulD (getV 2) (cst (.int 48271))) (cst (.int 4294967279)))) (mRet (m2 modD (m2 addD (m2 mulD (m2 fdivD (getV 2) (cst (.int 64))) (cst (.int 69621))) (getV 2)) (cst (.int 4294967231))))))
def mixA (ns : List Int) (k : Int) : Int := (cellZ ns k + 104729 * (k + 1)) % 4294967291 * 48271 % 4294967279
def mixZ (ns : List Int) (k : Int) : Int := (mixA ns k / 64 * 69621 + mixA ns k) % 4294967231
theorem mix_eq (ns : List Int) (k : Int) : runDef 3 2 (mMix (runDef 2 2 mCell)) [.scr ns, .int k] = .ok (.int (mixZ ns k)) := by
  simp only [runDef, mMix]
  simp [cell_eq, modI, mulL, mulR, fdivI, mixZ, mixA]
theorem mix_lo (ns : List Int) (k : Int) : 0 ≤ mixZ ns k := Int.emod_nonneg _ (by decide)
theorem mix_hi (ns : List Int) (k : Int) : mixZ ns k < 4294967231 := Int.emod_lt_of_pos _ (by decide)
end DL
/-! Truths, clauses, formulas: no program in sight. -/
namespace DL
open PySem L2

abbrev Asg := Nat → Bool
/-- what a literal is -/
def lt (σ : Asg) (l : Int) : Bool := if 0 < l then σ l.natAbs else !(σ l.natAbs)
def ct (σ : Asg) (c : List Int) : Bool := c.any (lt σ)
def ft (σ : Asg) (f : List (List Int)) : Bool := f.all (ct σ)
def litOk (v : Nat) (l : Int) : Prop := 1 ≤ l.natAbs ∧ l.natAbs ≤ v
def InR (v : Nat) (c : List Int) : Prop := ∀ l ∈ c, litOk v l
def sg (σ : Asg) (k : Nat) : Int := if σ k then (k : Int) else -(k : Int)
/-- the truths of 1..v as literals -/
def asg (v : Nat) (σ : Asg) : List Int := (List.range v).map fun k => sg σ (k + 1)
theorem asg_len (v : Nat) (σ : Asg) : (asg v σ).length = v := by simp [asg]
theorem lt_sg {σ : Asg} {l : Int} (h : l ≠ 0) : lt σ l = true ↔ l = sg σ l.natAbs := by
  unfold lt sg
  by_cases p : 0 < l
  · rw [if_pos p]
    have e : ((l.natAbs : Nat) : Int) = l := by omega
    cases σ l.natAbs
    · simp [e]; omega
    · simp [e]
  · rw [if_neg p]
    have e : ((l.natAbs : Nat) : Int) = -l := by omega
    cases σ l.natAbs
    · simp [e]
    · simp [e]; omega
theorem mem_asg {v : Nat} {σ : Asg} {l : Int} (h : litOk v l) : decide (l ∈ asg v σ) = lt σ l := by
  rw [Bool.eq_iff_iff, decide_eq_true_iff, lt_sg (by have := h.1; omega)]
  unfold asg
  rw [List.mem_map]
  constructor
  · rintro ⟨k, hk, e⟩
    have : l.natAbs = k + 1 := by
      rw [← e]; unfold sg; split <;> omega
    rw [this, e]
  · intro e
    exact ⟨l.natAbs - 1, List.mem_range.mpr (by have := h.1; have := h.2; omega), by rw [show l.natAbs - 1 + 1 = l.natAbs from by have := h.1; omega]; exact e.symm⟩
theorem any_asg {v : Nat} {σ : Asg} {c : List Int} (h : InR v c) : (c.any fun l => decide (l ∈ asg v σ)) = ct σ c := by
  unfold ct
  rw [Bool.eq_iff_iff, List.any_eq_true, List.any_eq_true]
  constructor
  · rintro ⟨l, hl, e⟩; exact ⟨l, hl, by rw [← mem_asg (h l hl)]; exact e⟩
  · rintro ⟨l, hl, e⟩; exact ⟨l, hl, by rw [mem_asg (h l hl)]; exact e⟩
/-- truths alike on 1..v -/
theorem asg_ext {v : Nat} {σ τ : Asg} (h : ∀ k, 1 ≤ k → k ≤ v → σ k = τ k) : asg v σ = asg v τ := by
  unfold asg
  refine List.map_congr_left fun k hk => ?_
  have := List.mem_range.mp hk
  unfold sg
  rw [h (k + 1) (by omega) (by omega)]
theorem ct_ext {v : Nat} {σ τ : Asg} (h : ∀ k, 1 ≤ k → k ≤ v → σ k = τ k) {c : List Int} (hc : InR v c) : ct σ c = ct τ c := by
  unfold ct
  rw [Bool.eq_iff_iff, List.any_eq_true, List.any_eq_true]
  have e : ∀ l ∈ c, lt σ l = lt τ l := fun l hl => by
    unfold lt
    rw [h _ (hc l hl).1 (hc l hl).2]
  constructor
  · rintro ⟨l, hl, q⟩; exact ⟨l, hl, by rw [← e l hl]; exact q⟩
  · rintro ⟨l, hl, q⟩; exact ⟨l, hl, by rw [e l hl]; exact q⟩
theorem ft_ext {v : Nat} {σ τ : Asg} (h : ∀ k, 1 ≤ k → k ≤ v → σ k = τ k) {f : List (List Int)} (hf : ∀ c ∈ f, InR v c) : ft σ f = ft τ f := by
  unfold ft
  rw [Bool.eq_iff_iff, List.all_eq_true, List.all_eq_true]
  constructor
  · intro q c hc; rw [← ct_ext h (hf c hc)]; exact q c hc
  · intro q c hc; rw [ct_ext h (hf c hc)]; exact q c hc
/-! ### all truths by numbers -/
/-- of a number: the lowest bit says what 1 is -/
def ofB (n : Nat) : Asg := fun k => decide (n / 2 ^ (k - 1) % 2 = 1)
/-- of a number: the highest of v bits says what 1 is -/
def ofS (v n : Nat) : Asg := fun k => decide (n / 2 ^ (v - k) % 2 = 1)
theorem ofB_ex (σ : Asg) : ∀ v, ∃ n, n < 2 ^ v ∧ ∀ k, 1 ≤ k → k ≤ v → ofB n k = σ k
  | 0 => ⟨0, by decide, fun k h1 h2 => by omega⟩
  | v + 1 => by
    obtain ⟨n, hn, h⟩ := ofB_ex σ v
    have key : ∀ b : Nat, b ≤ 1 → ∀ k, 1 ≤ k → k ≤ v → (n + b * 2 ^ v) / 2 ^ (k - 1) % 2 = n / 2 ^ (k - 1) % 2 := by
      intro b hb k h1 h2
      have : b * 2 ^ v = 2 ^ (k - 1) * (2 * (b * 2 ^ (v - k))) := by
        have e : v = (k - 1) + 1 + (v - k) := by omega
        conv => lhs; rw [e, Nat.pow_add, Nat.pow_add]
        simp [Nat.mul_comm, Nat.mul_left_comm, Nat.mul_assoc]
      rw [this, Nat.add_mul_div_left _ _ (Nat.two_pow_pos _), Nat.add_mul_mod_self_left]
    have top : ∀ b : Nat, b ≤ 1 → (n + b * 2 ^ v) / 2 ^ v % 2 = b := by
      intro b hb
      rw [Nat.add_mul_div_right _ _ (Nat.two_pow_pos _), Nat.div_eq_of_lt hn, Nat.zero_add, Nat.mod_eq_of_lt (by omega)]
    refine ⟨n + (if σ (v + 1) then 1 else 0) * 2 ^ v, ?_, fun k h1 h2 => ?_⟩
    · rw [Nat.pow_succ]
      split <;> omega
    · by_cases hk : k ≤ v
      · rw [← h k h1 hk]
        unfold ofB
        rw [key _ (by split <;> decide) k h1 hk]
      · have : k = v + 1 := by omega
        subst this
        unfold ofB
        rw [Nat.add_sub_cancel, top _ (by split <;> decide)]
        cases σ (v + 1) <;> simp
theorem ofS_ex (σ : Asg) (v : Nat) : ∃ n, n < 2 ^ v ∧ ∀ k, 1 ≤ k → k ≤ v → ofS v n k = σ k := by
  obtain ⟨n, hn, h⟩ := ofB_ex (fun k => σ (v + 1 - k)) v
  refine ⟨n, hn, fun k h1 h2 => ?_⟩
  have := h (v + 1 - k) (by omega) (by omega)
  unfold ofB at this
  unfold ofS
  rw [show v + 1 - k - 1 = v - k from by omega, show v + 1 - (v + 1 - k) = k from by omega] at this
  exact this
theorem all_ofS {v : Nat} {P : Asg → Bool} (hP : ∀ σ τ, (∀ k, 1 ≤ k → k ≤ v → σ k = τ k) → P σ = P τ) : (List.range (2 ^ v)).all (fun n => P (ofS v n)) = true ↔ ∀ σ, P σ = true := by
  rw [List.all_eq_true]
  constructor
  · intro h σ
    obtain ⟨n, hn, e⟩ := ofS_ex σ v
    rw [← hP _ _ e]
    exact h n (List.mem_range.mpr hn)
  · intro h n _
    exact h _
theorem all_ofB {v : Nat} {P : Asg → Bool} (hP : ∀ σ τ, (∀ k, 1 ≤ k → k ≤ v → σ k = τ k) → P σ = P τ) : (List.range (2 ^ v)).all (fun n => P (ofB n)) = true ↔ ∀ σ, P σ = true := by
  rw [List.all_eq_true]
  constructor
  · intro h σ
    obtain ⟨n, hn, e⟩ := ofB_ex σ v
    rw [← hP _ _ e]
    exact h n (List.mem_range.mpr hn)
  · intro h n _
    exact h _
/-! ### as data -/
def cD (c : List Int) : D := .tup (c.map D.int)
def fD (f : List (List Int)) : D := .lst (f.map cD)
theorem py_ints : ∀ c : List Int, PyData.canLayAll0 (toPyA (c.map D.int)) = true ∧ PyData.depthAll (toPyA (c.map D.int)) = 0
  | [] => ⟨rfl, rfl⟩
  | i :: c => by
    obtain ⟨h1, h2⟩ := py_ints c
    constructor
    · show (PyData.canLay0 (.int i) && PyData.canLayAll0 (toPyA (c.map D.int))) = true
      rw [h1]; simp only [PyData.canLay0]; rfl
    · show max (PyData.depth (.int i)) (PyData.depthAll (toPyA (c.map D.int))) = 0
      rw [h2]; simp only [PyData.depth]; rfl
theorem py_cls : ∀ f : List (List Int), PyData.canLayAll0 (toPyA (f.map cD)) = true ∧ PyData.depthAll (toPyA (f.map cD)) ≤ 1
  | [] => ⟨rfl, Nat.zero_le _⟩
  | c :: f => by
    obtain ⟨h1, h2⟩ := py_cls f
    obtain ⟨h3, h4⟩ := py_ints c
    constructor
    · show (PyData.canLay0 (.tuple (toPyA (c.map D.int))) && PyData.canLayAll0 (toPyA (f.map cD))) = true
      rw [h1]; simp only [PyData.canLay0, h3]; rfl
    · show max (PyData.depth (.tuple (toPyA (c.map D.int)))) (PyData.depthAll (toPyA (f.map cD))) ≤ 1
      simp only [PyData.depth, h4]; omega
theorem ok_ints (c : List Int) : okPy (.lst (c.map D.int)) = true := by
  obtain ⟨h3, h4⟩ := py_ints c
  show (PyData.canLay0 (.list (toPyA (c.map D.int))) && decide (PyData.depth (.list (toPyA (c.map D.int))) ≤ 64)) = true
  simp only [PyData.canLay0, PyData.depth, h3, h4]; decide
theorem ok_cD (c : List Int) : okPy (cD c) = true := by
  obtain ⟨h3, h4⟩ := py_ints c
  show (PyData.canLay0 (.tuple (toPyA (c.map D.int))) && decide (PyData.depth (.tuple (toPyA (c.map D.int))) ≤ 64)) = true
  simp only [PyData.canLay0, PyData.depth, h3, h4]; decide
theorem ok_fD (f : List (List Int)) : okPy (fD f) = true := by
  obtain ⟨h3, h4⟩ := py_cls f
  show (PyData.canLay0 (.list (toPyA (f.map cD))) && decide (PyData.depth (.list (toPyA (f.map cD))) ≤ 64)) = true
  rw [Bool.and_eq_true, decide_eq_true_iff]
  constructor
  · simp only [PyData.canLay0, h3]
  · simp only [PyData.depth]; omega
theorem eqv_ints : ∀ c d : List Int, PyData.eqvAll (toPyA (c.map D.int)) (toPyA (d.map D.int)) = decide (c = d)
  | [], [] => rfl
  | [], _ :: _ => by simp only [List.map_nil, List.map_cons, toPyA, PyData.eqvAll]; rfl
  | _ :: _, [] => by simp only [List.map_nil, List.map_cons, toPyA, PyData.eqvAll]; rfl
  | i :: c, j :: d => by
    simp only [List.map_cons, toPyA, PyData.eqvAll, toPy, PyData.eqv, eqv_ints c d]
    rw [Bool.eq_iff_iff]
    simp
theorem eqv_cls : ∀ f g : List (List Int), PyData.eqvAll (toPyA (f.map cD)) (toPyA (g.map cD)) = decide (f = g)
  | [], [] => rfl
  | [], _ :: _ => by simp only [List.map_nil, List.map_cons, toPyA, PyData.eqvAll]; rfl
  | _ :: _, [] => by simp only [List.map_nil, List.map_cons, toPyA, PyData.eqvAll]; rfl
  | c :: f, d :: g => by
    have ih := eqv_cls f g
    have e : PyData.eqv (toPy (cD c)) (toPy (cD d)) = decide (c = d) := by
      show PyData.eqv (.tuple (toPyA (c.map D.int))) (.tuple (toPyA (d.map D.int))) = _
      simp only [PyData.eqv, eqv_ints c d]
    rw [List.map_cons, List.map_cons]
    simp only [toPyA, PyData.eqvAll]
    rw [ih, e, Bool.eq_iff_iff]
    simp
@[simp] theorem eq_cD (c d : List Int) : eqD (cD c) (cD d) = .ok (.bl (decide (c = d))) := by
  show (if (okPy (cD c) && okPy (cD d)) = true then R.ok (D.bl (eqvD (cD c) (cD d))) else .bad) = _
  rw [ok_cD, ok_cD, if_pos (show (true && true) = true from rfl)]
  congr 2
  exact eqv_ints c d
@[simp] theorem eq_fD (c d : List (List Int)) : eqD (fD c) (fD d) = .ok (.bl (decide (c = d))) := by
  show (if (okPy (fD c) && okPy (fD d)) = true then R.ok (D.bl (eqvD (fD c) (fD d))) else .bad) = _
  rw [ok_fD, ok_fD, if_pos (show (true && true) = true from rfl)]
  congr 2
  exact eqv_cls c d
@[simp] theorem eq_iD (c d : List Int) : eqD (.lst (c.map D.int)) (.lst (d.map D.int)) = .ok (.bl (decide (c = d))) := by
  show (if (okPy (.lst (c.map D.int)) && okPy (.lst (d.map D.int))) = true then R.ok (D.bl (eqvD (.lst (c.map D.int)) (.lst (d.map D.int)))) else .bad) = _
  rw [ok_ints, ok_ints, if_pos (show (true && true) = true from rfl)]
  congr 2
  exact eqv_ints c d
def models (v : Nat) (f : List (List Int)) : List (List Int) := ((List.range (2 ^ v)).map fun n => asg v (ofS v n)).filter fun m => f.all fun c => c.any fun l => decide (l ∈ m)
theorem models_all {v : Nat} {f : List (List Int)} (hf : ∀ c ∈ f, InR v c) (c : List Int) (hc : InR v c) : (models v f).all (fun m => c.any fun l => decide (l ∈ m)) = true ↔ ∀ σ, ft σ f = true → ct σ c = true := by
  have e : (models v f).all (fun m => c.any fun l => decide (l ∈ m)) = (List.range (2 ^ v)).all (fun n => !(ft (ofS v n) f) || ct (ofS v n) c) := by
    unfold models
    rw [List.all_filter, List.all_map]
    congr 1
    funext n
    simp only [Function.comp_def]
    rw [any_asg hc]
    congr 2
    unfold ft
    rw [Bool.eq_iff_iff, List.all_eq_true, List.all_eq_true]
    constructor
    · intro q d hd; rw [← any_asg (hf d hd)]; exact q d hd
    · intro q d hd; rw [any_asg (hf d hd)]; exact q d hd
  rw [e, all_ofS (P := fun σ => !(ft σ f) || ct σ c) fun σ τ h => by rw [ft_ext h hf, ct_ext h hc]]
  constructor
  · intro h σ hs
    have := h σ
    rw [hs] at this
    exact this
  · intro h σ
    cases hs : ft σ f with
    | false => rfl
    | true => rw [h σ hs]; rfl
end DL
namespace DL
open PySem L2
open PyProof.Rows (envOfC)

def top (i : Nat) : Stmt := PySem.Challenge.pw_clausekeep_k22_models_told.main.body.getD i (.Pass ⟨0, 0, 0, 0⟩)
/-- the module's constants -/
structure Cst (mg : Str → Option Value) : Prop where
  none_ : True
/-! ### is_true -/
def s0_is_true : List Sl → SO :=
  (mRet (m2 eqD (fun S => ((getV 0) S).bind fun x => (isDctR x).bind fun x => ((fun S => ((aCons (getV 1) aNil) S).bind (on1 absD)) S).bind fun y => ((cst (.int 0)) S).bind fun z => getD3 x y z) (getV 1)))
def m_is_true : List Sl → SO :=
  s0_is_true
def f_is_true : List D → R D := runDef 2 2 m_is_true
theorem sc_is_true : FnScope ["truths", "literal"] ["truths", "literal"] (defScope (top 1)) := ⟨rfl, rfl, rfl, by decide +kernel, rfl, by decide +kernel, by decide +kernel⟩
theorem ok_is_true {P : Program} {w : World} {K : PySem.W.Frag} {mg : Str → Option Value} {base : Heap} {C : CL} {f : Addr} {fd : FuncData} (F : Fun K "is_true" "is_true" (top 1) f fd) (hm : mg "is_true" = some (.ref f)) (b : Binds K fd ["truths", "literal"] []) (B : Blt mg) (G : Cst mg)  :
    Def P w K mg base C 1 "is_true" ["truths", "literal"] f_is_true := by
  unfold f_is_true
  refine Def.mk' (m := m_is_true) rfl rfl F sc_is_true hm b fun cdv A outer s H E hr => ?_
  have hu65 : (A.deeper (envOfC "is_true" (defScope (top 1)) s.heap.objs.size f cdv)).units + 65 < cLine := by have := hr.un; omega
  have hu64 := Nat.lt_of_succ_lt hu65
  have hu1 : (A.deeper (envOfC "is_true" (defScope (top 1)) s.heap.objs.size f cdv)).units + 1 < cLine := by omega
  have sc := sc_is_true
  exact (dss_one (ds_ret (de_cmp (dc_op (opd_eq hu64) (DE.r (de_get hu1 (dr_var (pv 0)) (DE.r (de_callB cd_abs (by rfl) B.abs PyProof.Rows.boot_abs (da_cons (dr_var (pv 1)) da_nil))) de_int ⟨rfl, rfl, rfl, rfl⟩)) (dr_var (pv 1))) (by first | exact nobehind _ (by decide) (by decide) | rfl))))
/-! ### unlike -/
def s0_unlike : List Sl → SO :=
  (mSetN 1 (aLim aNil))
def b0_unlike : List Sl → SO :=
  (mIfS (fun S => ((m2 notInD (getV 2) (getV 1)) S).bind tBl) (mApp 1 (getF 2)) mSkip)
def s1_unlike : List Sl → SO :=
  (mFor (.one 2) (mItems (getF 0)) b0_unlike)
def s2_unlike : List Sl → SO :=
  (mRet (fun S => ((aCons (getV 1) aNil) S).bind (on1 tupD)))
def m_unlike : List Sl → SO :=
  (mSeq s0_unlike (mSeq s1_unlike s2_unlike))
def f_unlike : List D → R D := runDef 3 1 m_unlike
theorem sc_unlike : FnScope ["clause", "found", "literal"] ["clause"] (defScope (top 2)) := ⟨rfl, rfl, rfl, by decide +kernel, rfl, by decide +kernel, by decide +kernel⟩
theorem ok_unlike {P : Program} {w : World} {K : PySem.W.Frag} {mg : Str → Option Value} {base : Heap} {C : CL} {f : Addr} {fd : FuncData} (F : Fun K "unlike" "unlike" (top 2) f fd) (hm : mg "unlike" = some (.ref f)) (b : Binds K fd ["clause"] []) (B : Blt mg) (G : Cst mg)  :
    Def P w K mg base C 1 "unlike" ["clause"] f_unlike := by
  unfold f_unlike
  refine Def.mk' (m := m_unlike) rfl rfl F sc_unlike hm b fun cdv A outer s H E hr => ?_
  have hu65 : (A.deeper (envOfC "unlike" (defScope (top 2)) s.heap.objs.size f cdv)).units + 65 < cLine := by have := hr.un; omega
  have hu64 := Nat.lt_of_succ_lt hu65
  have hu1 : (A.deeper (envOfC "unlike" (defScope (top 2)) s.heap.objs.size f cdv)).units + 1 < cLine := by omega
  have sc := sc_unlike
  exact (dss_cons (ds_setN (i := 1) sc.nd rfl (by first | exact Or.inl rfl | exact Or.inr rfl) (dn_lst dar_nil)) (dss_cons (ds_for (t := (.one 2)) (passes_of rfl) rfl (dis_seq (de_var (pv 0))) (pg_name (i := 2) sc.nd rfl (by first | exact Or.inl rfl | exact Or.inr rfl)) (dss_one (ds_if (dt_cmp (dc_notIn hu65 (dr_var (pv 2)) (dr_var (pv 1))) (by first | exact nobehind _ (by decide) (by decide) | rfl)) (dss_one (ds_app (pv 1) (de_var (pv 2)))) dss_nil))) (dss_one (ds_ret (de_callT cd_tup (by rfl) B.tuple PyProof.Rows.boot_tuple (da_cons (dr_var (pv 1)) da_nil))))))
/-! ### held -/
def e0_held : List Sl → R D :=
  (fun S => ((aCons (getF 0) (aCons (getF 2) aNil)) S).bind f_is_true)
def s0_held : List Sl → SO :=
  (mRet (fun S => ((aCons (fun S => ((mLc (.one 2) [2] (mItems (getV 1)) mYes e0_held) S).bind fun ds => .ok (.lst ds)) aNil) S).bind (on1 anyD)))
def m_held : List Sl → SO :=
  s0_held
def f_held : List D → R D := runDef 3 2 m_held
theorem sc_held : FnScope ["truths", "clause", "literal"] ["truths", "clause"] (defScope (top 3)) := ⟨rfl, rfl, rfl, by decide +kernel, rfl, by decide +kernel, by decide +kernel⟩
theorem ok_held {P : Program} {w : World} {K : PySem.W.Frag} {mg : Str → Option Value} {base : Heap} {C : CL} {f : Addr} {fd : FuncData} (F : Fun K "held" "held" (top 3) f fd) (hm : mg "held" = some (.ref f)) (b : Binds K fd ["truths", "clause"] []) (B : Blt mg) (G : Cst mg) (D_is_true : Def P w K mg base C 1 "is_true" ["truths", "literal"] f_is_true) :
    Def P w K mg base C 2 "held" ["truths", "clause"] f_held := by
  unfold f_held
  refine Def.mk' (m := m_held) rfl rfl F sc_held hm b fun cdv A outer s H E hr => ?_
  have hu65 : (A.deeper (envOfC "held" (defScope (top 3)) s.heap.objs.size f cdv)).units + 65 < cLine := by have := hr.un; omega
  have hu64 := Nat.lt_of_succ_lt hu65
  have hu1 : (A.deeper (envOfC "held" (defScope (top 3)) s.heap.objs.size f cdv)).units + 1 < cLine := by omega
  have sc := sc_held
  exact (dss_one (ds_ret (de_callB (cd_any rfl) (by rfl) B.any PyProof.Rows.boot_any (da_cons (DE.r (DN.de (dn_lc (own := [(("literal" : Str), 2)]) (t := (.one 2)) rfl sc.nd (di_seq (dr_var (pv 1))) (by kernel_rfl) (by decide) (fun _ _ _ _ _ => (pg_name (i := 2) sc.nd rfl (by first | exact Or.inl rfl | exact Or.inr rfl))) (fun _ _ _ _ _ => dts_nil) (fun _ _ _ _ _ => (de_call D_is_true hr (by decide) takes0 rfl (dar_cons (de_var (pv 0)) (dar_cons (de_var (pv 2)) dar_nil)) rfl (len_cons (len_cons len_nil))))))) da_nil))))
/-! ### made -/
def s0_made : List Sl → SO :=
  (mSetND 1 (fun _ => .ok []))
def b0_made : List Sl → SO :=
  (mPut 1 (fun S => ((aCons (getV 2) aNil) S).bind (on1 absD)) (getF 2))
def s1_made : List Sl → SO :=
  (mFor (.one 2) (mItems (getF 0)) b0_made)
def s2_made : List Sl → SO :=
  (mRet (getF 1))
def m_made : List Sl → SO :=
  (mSeq s0_made (mSeq s1_made (mSeq (mFrz 1) s2_made)))
def f_made : List D → R D := runDef 3 1 m_made
theorem sc_made : FnScope ["literals", "found", "literal"] ["literals"] (defScope (top 4)) := ⟨rfl, rfl, rfl, by decide +kernel, rfl, by decide +kernel, by decide +kernel⟩
theorem ok_made {P : Program} {w : World} {K : PySem.W.Frag} {mg : Str → Option Value} {base : Heap} {C : CL} {f : Addr} {fd : FuncData} (F : Fun K "made" "made" (top 4) f fd) (hm : mg "made" = some (.ref f)) (b : Binds K fd ["literals"] []) (B : Blt mg) (G : Cst mg)  :
    Def P w K mg base C 1 "made" ["literals"] f_made := by
  unfold f_made
  refine Def.mk' (m := m_made) rfl rfl F sc_made hm b fun cdv A outer s H E hr => ?_
  have hu65 : (A.deeper (envOfC "made" (defScope (top 4)) s.heap.objs.size f cdv)).units + 65 < cLine := by have := hr.un; omega
  have hu64 := Nat.lt_of_succ_lt hu65
  have hu1 : (A.deeper (envOfC "made" (defScope (top 4)) s.heap.objs.size f cdv)).units + 1 < cLine := by omega
  have sc := sc_made
  exact (dss_cons (ds_setND (i := 1) sc.nd rfl (by first | exact Or.inl rfl | exact Or.inr rfl) dnd_new) (dss_cons (ds_for (t := (.one 2)) (passes_of rfl) rfl (dis_seq (de_var (pv 0))) (pg_name (i := 2) sc.nd rfl (by first | exact Or.inl rfl | exact Or.inr rfl)) (dss_one (ds_put hu1 (pv 1) (DE.r (de_callB cd_abs (by rfl) B.abs PyProof.Rows.boot_abs (da_cons (dr_var (pv 2)) da_nil))) (de_var (pv 2))))) (dss_frz (i := 1) (dss_one (ds_ret (de_var (pv 1)))))))
/-! ### satisfied -/
def s0_satisfied : List Sl → SO :=
  (mSet 2 (fun S => ((aCons (getF 1) aNil) S).bind f_made))
def e0_satisfied : List Sl → R D :=
  (fun S => ((aCons (getF 2) (aCons (getF 3) aNil)) S).bind f_held)
def s1_satisfied : List Sl → SO :=
  (mRet (fun S => ((aCons (fun S => ((mLc (.one 3) [3] (mItems (getV 0)) mYes e0_satisfied) S).bind fun ds => .ok (.lst ds)) aNil) S).bind (on1 allD)))
def m_satisfied : List Sl → SO :=
  (mSeq s0_satisfied s1_satisfied)
def f_satisfied : List D → R D := runDef 4 2 m_satisfied
theorem sc_satisfied : FnScope ["clauses", "model", "truths", "clause"] ["clauses", "model"] (defScope (top 5)) := ⟨rfl, rfl, rfl, by decide +kernel, rfl, by decide +kernel, by decide +kernel⟩
theorem ok_satisfied {P : Program} {w : World} {K : PySem.W.Frag} {mg : Str → Option Value} {base : Heap} {C : CL} {f : Addr} {fd : FuncData} (F : Fun K "satisfied" "satisfied" (top 5) f fd) (hm : mg "satisfied" = some (.ref f)) (b : Binds K fd ["clauses", "model"] []) (B : Blt mg) (G : Cst mg) (D_made : Def P w K mg base C 1 "made" ["literals"] f_made) (D_held : Def P w K mg base C 2 "held" ["truths", "clause"] f_held) :
    Def P w K mg base C 3 "satisfied" ["clauses", "model"] f_satisfied := by
  unfold f_satisfied
  refine Def.mk' (m := m_satisfied) rfl rfl F sc_satisfied hm b fun cdv A outer s H E hr => ?_
  have hu65 : (A.deeper (envOfC "satisfied" (defScope (top 5)) s.heap.objs.size f cdv)).units + 65 < cLine := by have := hr.un; omega
  have hu64 := Nat.lt_of_succ_lt hu65
  have hu1 : (A.deeper (envOfC "satisfied" (defScope (top 5)) s.heap.objs.size f cdv)).units + 1 < cLine := by omega
  have sc := sc_satisfied
  exact (dss_cons (ds_set (i := 2) sc.nd rfl (by first | exact Or.inl rfl | exact Or.inr rfl) (de_call D_made hr (by decide) (takes_of rfl rfl rfl rfl) rfl (dar_cons (de_var (pv 1)) dar_nil) rfl (len_cons len_nil))) (dss_one (ds_ret (de_callB (cd_all rfl) (by rfl) B.all PyProof.Rows.boot_all (da_cons (DE.r (DN.de (dn_lc (own := [(("clause" : Str), 3)]) (t := (.one 3)) rfl sc.nd (di_seq (dr_var (pv 0))) (by kernel_rfl) (by decide) (fun _ _ _ _ _ => (pg_name (i := 3) sc.nd rfl (by first | exact Or.inl rfl | exact Or.inr rfl))) (fun _ _ _ _ _ => dts_nil) (fun _ _ _ _ _ => (de_call D_held hr (by decide) takes0 rfl (dar_cons (de_var (pv 2)) (dar_cons (de_var (pv 3)) dar_nil)) rfl (len_cons (len_cons len_nil))))))) da_nil)))))
/-! ### all_models -/
def s0_all_models : List Sl → SO :=
  (mSetN 3 (aLim aNil))
def i0_all_models : List Sl → R (List D) :=
  (fun S => ((aCons (m2 powD (cst (.int 2)) (cst (.int 12))) aNil) S).bind rng1)
def i1_all_models : List Sl → R (List D) :=
  (fun S => ((aCons (getV 0) aNil) S).bind rng1)
def b0_all_models : List Sl → SO :=
  (mSeq (mApp 5 (mIf (fun S => ((m2 eqD (m2 modD (getV 6) (cst (.int 2))) (cst (.int 0))) S).bind tBl) (m1 negD (m2 subD (getV 0) (getV 7))) (m2 subD (getV 0) (getV 7)))) (mSet 6 (m2 fdivD (getV 6) (cst (.int 2)))))
def b1_all_models : List Sl → SO :=
  (mSeq (mSetN 5 (aLim aNil)) (mSeq (mSet 6 (getF 4)) (mSeq (mFor (.one 7) i1_all_models b0_all_models) (mSeq (mRev 5) (mSeq (mIfS (tOr2 (fun S => ((m2 gtD (getV 6) (cst (.int 0))) S).bind tBl) (fun S => ((m2 eqD (fun S => ((aCons (getV 3) aNil) S).bind (on1 lenD)) (getV 2)) S).bind tBl)) (mSeq (mFrz 3) (mRet (getF 3))) mSkip) (mIfS (fun S => ((fun S => ((aCons (getV 1) (aCons (getV 5) aNil)) S).bind fun xs => (f_satisfied xs).bind scalD) S).bind trD) (mApp 3 (fun S => ((aCons (getV 5) aNil) S).bind (on1 tupD))) mSkip))))))
def s1_all_models : List Sl → SO :=
  (mFor (.one 4) i0_all_models b1_all_models)
def s2_all_models : List Sl → SO :=
  (mRet (getF 3))
def m_all_models : List Sl → SO :=
  (mSeq s0_all_models (mSeq s1_all_models (mSeq (mFrz 3) s2_all_models)))
def f_all_models : List D → R D := runDef 8 3 m_all_models
theorem sc_all_models : FnScope ["variables", "clauses", "most", "found", "number", "model", "left", "k"] ["variables", "clauses", "most"] (defScope (top 7)) := ⟨rfl, rfl, rfl, by decide +kernel, rfl, by decide +kernel, by decide +kernel⟩
theorem ok_all_models {P : Program} {w : World} {K : PySem.W.Frag} {mg : Str → Option Value} {base : Heap} {C : CL} {f : Addr} {fd : FuncData} (F : Fun K "all_models" "all_models" (top 7) f fd) (hm : mg "all_models" = some (.ref f)) (b : Binds K fd ["variables", "clauses", "most"] []) (B : Blt mg) (G : Cst mg) (D_satisfied : Def P w K mg base C 3 "satisfied" ["clauses", "model"] f_satisfied) :
    Def P w K mg base C 4 "all_models" ["variables", "clauses", "most"] f_all_models := by
  unfold f_all_models
  refine Def.mk' (m := m_all_models) rfl rfl F sc_all_models hm b fun cdv A outer s H E hr => ?_
  have hu65 : (A.deeper (envOfC "all_models" (defScope (top 7)) s.heap.objs.size f cdv)).units + 65 < cLine := by have := hr.un; omega
  have hu64 := Nat.lt_of_succ_lt hu65
  have hu1 : (A.deeper (envOfC "all_models" (defScope (top 7)) s.heap.objs.size f cdv)).units + 1 < cLine := by omega
  have sc := sc_all_models
  exact (dss_cons (ds_setN (i := 3) sc.nd rfl (by first | exact Or.inl rfl | exact Or.inr rfl) (dn_lst dar_nil)) (dss_cons (ds_for (t := (.one 4)) (passes_of rfl) rfl (dis_range1 (by rfl) B.range (da_cons (DE.r (de_bin opd_pow (DE.r de_int) (DE.r de_int))) da_nil)) (pg_name (i := 4) sc.nd rfl (by first | exact Or.inl rfl | exact Or.inr rfl)) (dss_cons (ds_setN (i := 5) sc.nd rfl (by first | exact Or.inl rfl | exact Or.inr rfl) (dn_lst dar_nil)) (dss_cons (ds_set (i := 6) sc.nd rfl (by first | exact Or.inl rfl | exact Or.inr rfl) (de_var (pv 4))) (dss_cons (ds_for (t := (.one 7)) (passes_of rfl) rfl (dis_range1 (by rfl) B.range (da_cons (dr_var (pv 0)) da_nil)) (pg_name (i := 7) sc.nd rfl (by first | exact Or.inl rfl | exact Or.inr rfl)) (dss_cons (ds_app (pv 5) (de_if (dt_cmp (dc_op (opd_eq hu64) (DE.r (de_bin opd_mod (dr_var (pv 6)) (DE.r de_int))) (DE.r de_int)) (by first | exact nobehind _ (by decide) (by decide) | rfl)) (de_un und_neg (DE.r (de_bin opd_sub (dr_var (pv 0)) (dr_var (pv 7))))) (de_bin opd_sub (dr_var (pv 0)) (dr_var (pv 7))))) (dss_one (ds_set (i := 6) sc.nd rfl (by first | exact Or.inl rfl | exact Or.inr rfl) (de_bin opd_fdiv (dr_var (pv 6)) (DE.r de_int)))))) (dss_cons (ds_rev (pv 5)) (dss_cons (ds_if (dt_w (dw_or (dt_cmp (dc_op opd_gt (dr_var (pv 6)) (DE.r de_int)) (by first | exact nobehind _ (by decide) (by decide) | rfl)) (dw_or1 (dt_cmp (dc_op (opd_eq hu64) (DE.r (de_callB cd_len (by rfl) B.len PySem.boot_len (da_cons (dr_var (pv 3)) da_nil))) (dr_var (pv 2))) (by first | exact nobehind _ (by decide) (by decide) | rfl))))) (dss_frz (i := 3) (dss_one (ds_ret (de_var (pv 3))))) dss_nil) (dss_one (ds_if (dt_tru (DE.r (de_callV D_satisfied hr (by decide) (takes_of rfl rfl rfl rfl) (by rfl) (da_cons (dr_var (pv 1)) (da_cons (dr_var (pv 5)) da_nil)) (len_cons (len_cons len_nil)))) (fun _ => rfl)) (dss_one (ds_app (pv 3) (de_callT cd_tup (by rfl) B.tuple PyProof.Rows.boot_tuple (da_cons (dr_var (pv 5)) da_nil)))) dss_nil)))))))) (dss_frz (i := 3) (dss_one (ds_ret (de_var (pv 3)))))))
/-! ### when_true -/
def c0_when_true : List Sl → R Bool :=
  (fun S => ((m2 notInD (getV 1) (getV 2)) S).bind tBl)
def c1_when_true : List Sl → R Bool :=
  (fun S => ((m2 neD (getV 3) (m1 negD (getV 1))) S).bind tBl)
def e0_when_true : List Sl → R D :=
  (getF 3)
def e1_when_true : List Sl → R D :=
  (fun S => ((aCons (fun S => ((mLc (.one 3) [3] (mItems (getV 2)) c1_when_true e0_when_true) S).bind fun ds => .ok (.lst ds)) aNil) S).bind (on1 tupD))
def s0_when_true : List Sl → SO :=
  (mRet (fun S => ((mLc (.one 2) [2] (mItems (getV 0)) c0_when_true e1_when_true) S).bind fun ds => .ok (.lst ds)))
def m_when_true : List Sl → SO :=
  s0_when_true
def f_when_true : List D → R D := runDef 4 2 m_when_true
theorem sc_when_true : FnScope ["clauses", "literal", "clause", "one"] ["clauses", "literal"] (defScope (top 9)) := ⟨rfl, rfl, rfl, by decide +kernel, rfl, by decide +kernel, by decide +kernel⟩
theorem ok_when_true {P : Program} {w : World} {K : PySem.W.Frag} {mg : Str → Option Value} {base : Heap} {C : CL} {f : Addr} {fd : FuncData} (F : Fun K "when_true" "when_true" (top 9) f fd) (hm : mg "when_true" = some (.ref f)) (b : Binds K fd ["clauses", "literal"] []) (B : Blt mg) (G : Cst mg)  :
    Def P w K mg base C 1 "when_true" ["clauses", "literal"] f_when_true := by
  unfold f_when_true
  refine Def.mk' (m := m_when_true) rfl rfl F sc_when_true hm b fun cdv A outer s H E hr => ?_
  have hu65 : (A.deeper (envOfC "when_true" (defScope (top 9)) s.heap.objs.size f cdv)).units + 65 < cLine := by have := hr.un; omega
  have hu64 := Nat.lt_of_succ_lt hu65
  have hu1 : (A.deeper (envOfC "when_true" (defScope (top 9)) s.heap.objs.size f cdv)).units + 1 < cLine := by omega
  have sc := sc_when_true
  exact (dss_one (ds_ret (DN.de (dn_lc (own := [(("clause" : Str), 2)]) (t := (.one 2)) rfl sc.nd (di_seq (dr_var (pv 0))) (by kernel_rfl) (by decide) (fun _ _ _ _ _ => (pg_name (i := 2) sc.nd rfl (by first | exact Or.inl rfl | exact Or.inr rfl))) (fun _ _ _ _ _ => (dts_one (dt_cmp (dc_notIn hu65 (dr_var (pv 1)) (dr_var (pv 2))) (by first | exact nobehind _ (by decide) (by decide) | rfl)))) (fun _ _ _ _ _ => (de_callT cd_tup (by rfl) B.tuple PyProof.Rows.boot_tuple (da_cons (DE.r (DN.de (dn_lc (own := [(("one" : Str), 3)]) (t := (.one 3)) rfl sc.nd (di_seq (dr_var (pv 2))) (by kernel_rfl) (by decide) (fun _ _ _ _ _ => (pg_name (i := 3) sc.nd rfl (by first | exact Or.inl rfl | exact Or.inr rfl))) (fun _ _ _ _ _ => (dts_one (dt_cmp (dc_op (opd_ne hu64) (dr_var (pv 3)) (DE.r (de_un und_neg (dr_var (pv 1))))) (by first | exact nobehind _ (by decide) (by decide) | rfl)))) (fun _ _ _ _ _ => (de_var (pv 3)))))) da_nil)))))))
/-! ### powers -/
def s0_powers : List Sl → SO :=
  (mSet 1 (cst (.int 1)))
def i0_powers : List Sl → R (List D) :=
  (fun S => ((aCons (getV 0) aNil) S).bind rng1)
def b0_powers : List Sl → SO :=
  (mSet 1 (m2 mulD (getV 1) (cst (.int 2))))
def s1_powers : List Sl → SO :=
  (mFor (.one 2) i0_powers b0_powers)
def s2_powers : List Sl → SO :=
  (mRet (getF 1))
def m_powers : List Sl → SO :=
  (mSeq s0_powers (mSeq s1_powers s2_powers))
def f_powers : List D → R D := runDef 3 1 m_powers
theorem sc_powers : FnScope ["many", "found", "k"] ["many"] (defScope (top 11)) := ⟨rfl, rfl, rfl, by decide +kernel, rfl, by decide +kernel, by decide +kernel⟩
theorem ok_powers {P : Program} {w : World} {K : PySem.W.Frag} {mg : Str → Option Value} {base : Heap} {C : CL} {f : Addr} {fd : FuncData} (F : Fun K "powers" "powers" (top 11) f fd) (hm : mg "powers" = some (.ref f)) (b : Binds K fd ["many"] []) (B : Blt mg) (G : Cst mg)  :
    Def P w K mg base C 1 "powers" ["many"] f_powers := by
  unfold f_powers
  refine Def.mk' (m := m_powers) rfl rfl F sc_powers hm b fun cdv A outer s H E hr => ?_
  have hu65 : (A.deeper (envOfC "powers" (defScope (top 11)) s.heap.objs.size f cdv)).units + 65 < cLine := by have := hr.un; omega
  have hu64 := Nat.lt_of_succ_lt hu65
  have hu1 : (A.deeper (envOfC "powers" (defScope (top 11)) s.heap.objs.size f cdv)).units + 1 < cLine := by omega
  have sc := sc_powers
  exact (dss_cons (ds_set (i := 1) sc.nd rfl (by first | exact Or.inl rfl | exact Or.inr rfl) de_int) (dss_cons (ds_for (t := (.one 2)) (passes_of rfl) rfl (dis_range1 (by rfl) B.range (da_cons (dr_var (pv 0)) da_nil)) (pg_name (i := 2) sc.nd rfl (by first | exact Or.inl rfl | exact Or.inr rfl)) (dss_one (ds_set (i := 1) sc.nd rfl (by first | exact Or.inl rfl | exact Or.inr rfl) (de_bin opd_mul (dr_var (pv 1)) (DE.r de_int))))) (dss_one (ds_ret (de_var (pv 1))))))
/-! ### names_of -/
def s0_names_of : List Sl → SO :=
  (mSetND 1 (fun _ => .ok []))
def b0_names_of : List Sl → SO :=
  (mPut 1 (fun S => ((aCons (getV 3) aNil) S).bind (on1 absD)) (cst (.bl true)))
def b1_names_of : List Sl → SO :=
  (mFor (.one 3) (mItems (getF 2)) b0_names_of)
def s1_names_of : List Sl → SO :=
  (mFor (.one 2) (mItems (getF 0)) b1_names_of)
def s2_names_of : List Sl → SO :=
  (mRet (fun S => ((fun S => ((aCons (getV 1) aNil) S).bind (onN sortedD)) S).bind fun ds => .ok (.lst ds)))
def m_names_of : List Sl → SO :=
  (mSeq s0_names_of (mSeq s1_names_of s2_names_of))
def f_names_of : List D → R D := runDef 4 1 m_names_of
theorem sc_names_of : FnScope ["clauses", "found", "clause", "literal"] ["clauses"] (defScope (top 12)) := ⟨rfl, rfl, rfl, by decide +kernel, rfl, by decide +kernel, by decide +kernel⟩
theorem ok_names_of {P : Program} {w : World} {K : PySem.W.Frag} {mg : Str → Option Value} {base : Heap} {C : CL} {f : Addr} {fd : FuncData} (F : Fun K "names_of" "names_of" (top 12) f fd) (hm : mg "names_of" = some (.ref f)) (b : Binds K fd ["clauses"] []) (B : Blt mg) (G : Cst mg)  :
    Def P w K mg base C 1 "names_of" ["clauses"] f_names_of := by
  unfold f_names_of
  refine Def.mk' (m := m_names_of) rfl rfl F sc_names_of hm b fun cdv A outer s H E hr => ?_
  have hu65 : (A.deeper (envOfC "names_of" (defScope (top 12)) s.heap.objs.size f cdv)).units + 65 < cLine := by have := hr.un; omega
  have hu64 := Nat.lt_of_succ_lt hu65
  have hu1 : (A.deeper (envOfC "names_of" (defScope (top 12)) s.heap.objs.size f cdv)).units + 1 < cLine := by omega
  have sc := sc_names_of
  exact (dss_cons (ds_setND (i := 1) sc.nd rfl (by first | exact Or.inl rfl | exact Or.inr rfl) dnd_new) (dss_cons (ds_for (t := (.one 2)) (passes_of rfl) rfl (dis_seq (de_var (pv 0))) (pg_name (i := 2) sc.nd rfl (by first | exact Or.inl rfl | exact Or.inr rfl)) (dss_one (ds_for (t := (.one 3)) (passes_of rfl) rfl (dis_seq (de_var (pv 2))) (pg_name (i := 3) sc.nd rfl (by first | exact Or.inl rfl | exact Or.inr rfl)) (dss_one (ds_put hu1 (pv 1) (DE.r (de_callB cd_abs (by rfl) B.abs PyProof.Rows.boot_abs (da_cons (dr_var (pv 3)) da_nil))) de_bl))))) (dss_one (ds_ret (DN.de (dn_callB (cn_sorted rfl) (by rfl) B.sorted PyProof.Rows.boot_sorted (da_cons (dr_var (pv 1)) da_nil)))))))
/-! ### joined_to -/
def s0_joined_to : List Sl → SO :=
  (mSetND 2 (mOne (getV 1) (cst (.bl true))))
def s1_joined_to : List Sl → SO :=
  (mSet 3 (cst (.bl true)))
def e0_joined_to : List Sl → R D :=
  (fun S => ((aCons (getV 7) aNil) S).bind (on1 absD))
def e1_joined_to : List Sl → R D :=
  (m2 inD (getV 6) (getV 2))
def e2_joined_to : List Sl → R D :=
  (m2 inD (getV 6) (getV 2))
def b0_joined_to : List Sl → SO :=
  (mPut 2 (getV 6) (cst (.bl true)))
def b1_joined_to : List Sl → SO :=
  (mSeq (mSet 5 (fun S => ((mLc (.one 7) [7] (mItems (getV 4)) mYes e0_joined_to) S).bind fun ds => .ok (.lst ds))) (mIfS (tAnd2 (fun S => ((fun S => ((aCons (fun S => ((mLc (.one 6) [6] (mItems (getV 5)) mYes e1_joined_to) S).bind fun ds => .ok (.lst ds)) aNil) S).bind (on1 anyD)) S).bind trD) (tNot1 (fun S => ((fun S => ((aCons (fun S => ((mLc (.one 6) [6] (mItems (getV 5)) mYes e2_joined_to) S).bind fun ds => .ok (.lst ds)) aNil) S).bind (on1 allD)) S).bind trD))) (mSeq (mFor (.one 6) (mItems (getF 5)) b0_joined_to) (mSet 3 (cst (.bl true)))) mSkip))
def b2_joined_to : List Sl → SO :=
  (mSeq (mSet 3 (cst (.bl false))) (mFor (.one 4) (mItems (getF 0)) b1_joined_to))
def t0_joined_to : List Sl → R Bool :=
  (fun S => ((getV 3) S).bind trD)
def s2_joined_to : List Sl → SO :=
  (whileM t0_joined_to b2_joined_to 1000)
def s3_joined_to : List Sl → SO :=
  (mRet (getF 2))
def m_joined_to : List Sl → SO :=
  (mSeq s0_joined_to (mSeq s1_joined_to (mSeq s2_joined_to (mSeq (mFrz 2) s3_joined_to))))
def f_joined_to : List D → R D := runDef 8 2 m_joined_to
theorem sc_joined_to : FnScope ["clauses", "first", "found", "still", "clause", "names", "name", "literal"] ["clauses", "first"] (defScope (top 13)) := ⟨rfl, rfl, rfl, by decide +kernel, rfl, by decide +kernel, by decide +kernel⟩
theorem ok_joined_to {P : Program} {w : World} {K : PySem.W.Frag} {mg : Str → Option Value} {base : Heap} {C : CL} {f : Addr} {fd : FuncData} (F : Fun K "joined_to" "joined_to" (top 13) f fd) (hm : mg "joined_to" = some (.ref f)) (b : Binds K fd ["clauses", "first"] []) (B : Blt mg) (G : Cst mg)  :
    Def P w K mg base C 1 "joined_to" ["clauses", "first"] f_joined_to := by
  unfold f_joined_to
  refine Def.mk' (m := m_joined_to) rfl rfl F sc_joined_to hm b fun cdv A outer s H E hr => ?_
  have hu65 : (A.deeper (envOfC "joined_to" (defScope (top 13)) s.heap.objs.size f cdv)).units + 65 < cLine := by have := hr.un; omega
  have hu64 := Nat.lt_of_succ_lt hu65
  have hu1 : (A.deeper (envOfC "joined_to" (defScope (top 13)) s.heap.objs.size f cdv)).units + 1 < cLine := by omega
  have sc := sc_joined_to
  exact (dss_cons (ds_setND (i := 2) sc.nd rfl (by first | exact Or.inl rfl | exact Or.inr rfl) (dnd_one (dr_var (pv 1)) de_bl)) (dss_cons (ds_set (i := 3) sc.nd rfl (by first | exact Or.inl rfl | exact Or.inr rfl) de_bl) (dss_cons (ds_while 1000 (passes_of rfl) (dt_tru (dr_var (pv 3)) (fun _ => rfl)) (dss_cons (ds_set (i := 3) sc.nd rfl (by first | exact Or.inl rfl | exact Or.inr rfl) de_bl) (dss_one (ds_for (t := (.one 4)) (passes_of rfl) rfl (dis_seq (de_var (pv 0))) (pg_name (i := 4) sc.nd rfl (by first | exact Or.inl rfl | exact Or.inr rfl)) (dss_cons (ds_asg (ps_N_E (ps_lcN (i := 5) (own := [(("literal" : Str), 7)]) (t := (.one 7)) rfl sc.nd rfl rfl (sw_true rfl rfl rfl (by decide +kernel)) (di_seq (dr_var (pv 4))) (by kernel_rfl) (by decide) (fun _ _ _ _ _ => (pg_name (i := 7) sc.nd rfl (by first | exact Or.inl rfl | exact Or.inr rfl))) (fun _ _ _ _ _ => dts_nil) (fun _ _ _ _ _ => (de_callB cd_abs (by rfl) B.abs PyProof.Rows.boot_abs (da_cons (dr_var (pv 7)) da_nil)))))) (dss_one (ds_if (dt_w (dw_and (dt_tru (DE.r (de_callB (cd_any rfl) (by rfl) B.any PyProof.Rows.boot_any (da_cons (DE.r (DN.de (dn_lc (own := [(("name" : Str), 6)]) (t := (.one 6)) rfl sc.nd (di_seq (dr_var (pv 5))) (by kernel_rfl) (by decide) (fun _ _ _ _ _ => (pg_name (i := 6) sc.nd rfl (by first | exact Or.inl rfl | exact Or.inr rfl))) (fun _ _ _ _ _ => dts_nil) (fun _ _ _ _ _ => (de_cmp (dc_in hu65 (dr_var (pv 6)) (dr_var (pv 2))) (by first | exact nobehind _ (by decide) (by decide) | rfl)))))) da_nil))) (fun _ => rfl)) (dw_and1 (dt_not (dt_tru (DE.r (de_callB (cd_all rfl) (by rfl) B.all PyProof.Rows.boot_all (da_cons (DE.r (DN.de (dn_lc (own := [(("name" : Str), 6)]) (t := (.one 6)) rfl sc.nd (di_seq (dr_var (pv 5))) (by kernel_rfl) (by decide) (fun _ _ _ _ _ => (pg_name (i := 6) sc.nd rfl (by first | exact Or.inl rfl | exact Or.inr rfl))) (fun _ _ _ _ _ => dts_nil) (fun _ _ _ _ _ => (de_cmp (dc_in hu65 (dr_var (pv 6)) (dr_var (pv 2))) (by first | exact nobehind _ (by decide) (by decide) | rfl)))))) da_nil))) (fun _ => rfl)))))) (dss_cons (ds_for (t := (.one 6)) (passes_of rfl) rfl (dis_seq (de_var (pv 5))) (pg_name (i := 6) sc.nd rfl (by first | exact Or.inl rfl | exact Or.inr rfl)) (dss_one (ds_put hu1 (pv 2) (dr_var (pv 6)) de_bl))) (dss_one (ds_set (i := 3) sc.nd rfl (by first | exact Or.inl rfl | exact Or.inr rfl) de_bl))) dss_nil))))))) (dss_frz (i := 2) (dss_one (ds_ret (de_var (pv 2))))))))
/-! ### counted_part -/
def e0_counted_part (f_self : List D → R D) : List Sl → R D :=
  (fun S => ((aCons (getF 9) aNil) S).bind f_unlike)
def s0_counted_part (f_self : List D → R D) : List Sl → SO :=
  (mSet 0 (fun S => ((mLc (.one 9) [9] (mItems (getV 0)) mYes (e0_counted_part f_self)) S).bind fun ds => .ok (.lst ds)))
def s1_counted_part (f_self : List D → R D) : List Sl → SO :=
  (mSet 1 (fun S => ((aCons (getF 0) aNil) S).bind f_names_of))
def s2_counted_part (f_self : List D → R D) : List Sl → SO :=
  (mIfS (fun S => ((m2 inD (fun S => (aLim aNil S).bind fun ds => .ok (.tup ds)) (getV 0)) S).bind tBl) (mRet (fun S => (aLim (aCons (cst (.int 0)) (aCons (fun S => ((aCons (getV 1) aNil) S).bind (on1 lenD)) aNil)) S).bind fun ds => .ok (.tup ds))) mSkip)
def s3_counted_part (f_self : List D → R D) : List Sl → SO :=
  (mIfS (tNot1 (fun S => ((getV 1) S).bind trD)) (mRet (fun S => (aLim (aCons (cst (.int 1)) (aCons (cst (.int 0)) aNil)) S).bind fun ds => .ok (.tup ds))) mSkip)
def s4_counted_part (f_self : List D → R D) : List Sl → SO :=
  (mSet 2 (fun S => ((aCons (getF 0) (aCons (m2 ixD (getV 1) (cst (.int 0))) aNil)) S).bind f_joined_to))
def c0_counted_part (f_self : List D → R D) : List Sl → R Bool :=
  (fun S => ((m2 inD (fun S => ((aCons (m2 ixD (getV 9) (cst (.int 0))) aNil) S).bind (on1 absD)) (getV 2)) S).bind tBl)
def e1_counted_part (f_self : List D → R D) : List Sl → R D :=
  (getF 9)
def s5_counted_part (f_self : List D → R D) : List Sl → SO :=
  (mSet 3 (fun S => ((mLc (.one 9) [9] (mItems (getV 0)) (c0_counted_part f_self) (e1_counted_part f_self)) S).bind fun ds => .ok (.lst ds)))
def c1_counted_part (f_self : List D → R D) : List Sl → R Bool :=
  (fun S => ((m2 notInD (fun S => ((aCons (m2 ixD (getV 9) (cst (.int 0))) aNil) S).bind (on1 absD)) (getV 2)) S).bind tBl)
def e2_counted_part (f_self : List D → R D) : List Sl → R D :=
  (getF 9)
def s6_counted_part (f_self : List D → R D) : List Sl → SO :=
  (mSet 4 (fun S => ((mLc (.one 9) [9] (mItems (getV 0)) (c1_counted_part f_self) (e2_counted_part f_self)) S).bind fun ds => .ok (.lst ds)))
def s7_counted_part (f_self : List D → R D) : List Sl → SO :=
  (mSet 5 (fun S => ((aCons (getF 4) aNil) S).bind f_self))
def s8_counted_part (f_self : List D → R D) : List Sl → SO :=
  (mSet 6 (cst (.int 0)))
def b0_counted_part (f_self : List D → R D) : List Sl → SO :=
  (mSeq (mSet 8 (fun S => ((aCons (fun S => ((aCons (getF 3) (aCons (getF 7) aNil)) S).bind f_when_true) aNil) S).bind f_self)) (mSet 6 (m2 addD (getV 6) (m2 mulD (m2 ixD (getV 8) (cst (.int 0))) (fun S => ((aCons (m2 subD (m2 subD (fun S => ((aCons (getV 2) aNil) S).bind (on1 lenD)) (cst (.int 1))) (m2 ixD (getV 8) (cst (.int 1)))) aNil) S).bind f_powers)))))
def s9_counted_part (f_self : List D → R D) : List Sl → SO :=
  (mFor (.one 7) (mItems (fun S => (aLim (aCons (m2 ixD (getV 1) (cst (.int 0))) (aCons (m1 negD (m2 ixD (getV 1) (cst (.int 0)))) aNil)) S).bind fun ds => .ok (.tup ds))) (b0_counted_part f_self))
def s10_counted_part (f_self : List D → R D) : List Sl → SO :=
  (mRet (fun S => (aLim (aCons (m2 mulD (getV 6) (m2 ixD (getV 5) (cst (.int 0)))) (aCons (fun S => ((aCons (getV 1) aNil) S).bind (on1 lenD)) aNil)) S).bind fun ds => .ok (.tup ds)))
def m_counted_part (f_self : List D → R D) : List Sl → SO :=
  (mSeq (s0_counted_part f_self) (mSeq (s1_counted_part f_self) (mSeq (s2_counted_part f_self) (mSeq (s3_counted_part f_self) (mSeq (s4_counted_part f_self) (mSeq (s5_counted_part f_self) (mSeq (s6_counted_part f_self) (mSeq (s7_counted_part f_self) (mSeq (s8_counted_part f_self) (mSeq (s9_counted_part f_self) (s10_counted_part f_self)))))))))))
def f_counted_part : Nat → List D → R D
  | 0 => fun _ => .bad
  | n + 1 => runDef 10 1 (m_counted_part (f_counted_part n))
theorem sc_counted_part : FnScope ["clauses", "names", "together", "here", "apart", "rest", "total", "literal", "part", "clause"] ["clauses"] (defScope (top 14)) := ⟨rfl, rfl, rfl, by decide +kernel, rfl, by decide +kernel, by decide +kernel⟩
theorem ok_counted_part {P : Program} {w : World} {K : PySem.W.Frag} {mg : Str → Option Value} {base : Heap} {C : CL} {f : Addr} {fd : FuncData} (F : Fun K "counted_part" "counted_part" (top 14) f fd) (hm : mg "counted_part" = some (.ref f)) (b : Binds K fd ["clauses"] []) (B : Blt mg) (G : Cst mg) (D_unlike : Def P w K mg base C 1 "unlike" ["clause"] f_unlike) (D_names_of : Def P w K mg base C 1 "names_of" ["clauses"] f_names_of) (D_joined_to : Def P w K mg base C 1 "joined_to" ["clauses", "first"] f_joined_to) (D_when_true : Def P w K mg base C 1 "when_true" ["clauses", "literal"] f_when_true) (D_powers : Def P w K mg base C 1 "powers" ["many"] f_powers) :
    ∀ n : Nat, Def P w K mg base C (2 + n) "counted_part" ["clauses"] (f_counted_part n) := by
  intro n
  induction n with
  | zero => exact Def.mk' (k := 1) (m := fun _ => SO.bad) (n := 10) (np := 1) rfl rfl F sc_counted_part hm b fun cdv A outer s H E hr => dss_bad
  | succ n D_self =>
  show Def P w K mg base C ((2 + n) + 1) "counted_part" ["clauses"] (runDef 10 1 (m_counted_part (f_counted_part n)))
  generalize f_counted_part n = f_self at *
  refine Def.mk' (k := 2 + n) (m := m_counted_part f_self) rfl rfl F sc_counted_part hm b fun cdv A outer s H E hr => ?_
  have hu65 : (A.deeper (envOfC "counted_part" (defScope (top 14)) s.heap.objs.size f cdv)).units + 65 < cLine := by have := hr.un; omega
  have hu64 := Nat.lt_of_succ_lt hu65
  have hu1 : (A.deeper (envOfC "counted_part" (defScope (top 14)) s.heap.objs.size f cdv)).units + 1 < cLine := by omega
  have sc := sc_counted_part
  exact (dss_cons (ds_asg (ps_N_E (ps_lcN (i := 0) (own := [(("clause" : Str), 9)]) (t := (.one 9)) rfl sc.nd rfl rfl (sw_true rfl rfl rfl (by decide +kernel)) (di_seq (dr_var (pv 0))) (by kernel_rfl) (by decide) (fun _ _ _ _ _ => (pg_name (i := 9) sc.nd rfl (by first | exact Or.inl rfl | exact Or.inr rfl))) (fun _ _ _ _ _ => dts_nil) (fun _ _ _ _ _ => (de_call D_unlike hr (by omega) takes0 rfl (dar_cons (de_var (pv 9)) dar_nil) rfl (len_cons len_nil)))))) (dss_cons (ds_set (i := 1) sc.nd rfl (by first | exact Or.inl rfl | exact Or.inr rfl) (de_call D_names_of hr (by omega) (takes_of rfl rfl rfl rfl) rfl (dar_cons (de_var (pv 0)) dar_nil) rfl (len_cons len_nil))) (dss_cons (ds_if (dt_cmp (dc_in hu65 (DE.r (de_tup dar_nil)) (dr_var (pv 0))) (by first | exact nobehind _ (by decide) (by decide) | rfl)) (dss_one (ds_ret (de_tup (dar_cons de_int (dar_cons (de_callB cd_len (by rfl) B.len PySem.boot_len (da_cons (dr_var (pv 1)) da_nil)) dar_nil))))) dss_nil) (dss_cons (ds_if (dt_not (dt_tru (dr_var (pv 1)) (fun _ => rfl))) (dss_one (ds_ret (de_tup (dar_cons de_int (dar_cons de_int dar_nil))))) dss_nil) (dss_cons (ds_set (i := 2) sc.nd rfl (by first | exact Or.inl rfl | exact Or.inr rfl) (de_call D_joined_to hr (by omega) (takes_of rfl rfl rfl rfl) rfl (dar_cons (de_var (pv 0)) (dar_cons (de_ix hu65 (dr_var (pv 1)) (DE.r de_int) (fun _ _ => rfl) (fun _ _ => rfl)) dar_nil)) rfl (len_cons (len_cons len_nil)))) (dss_cons (ds_asg (ps_N_E (ps_lcN (i := 3) (own := [(("clause" : Str), 9)]) (t := (.one 9)) rfl sc.nd rfl rfl (sw_true rfl rfl rfl (by decide +kernel)) (di_seq (dr_var (pv 0))) (by kernel_rfl) (by decide) (fun _ _ _ _ _ => (pg_name (i := 9) sc.nd rfl (by first | exact Or.inl rfl | exact Or.inr rfl))) (fun _ _ _ _ _ => (dts_one (dt_cmp (dc_in hu65 (DE.r (de_callB cd_abs (by rfl) B.abs PyProof.Rows.boot_abs (da_cons (DE.r (de_ix hu65 (dr_var (pv 9)) (DE.r de_int) (fun _ _ => rfl) (fun _ _ => rfl))) da_nil))) (dr_var (pv 2))) (by first | exact nobehind _ (by decide) (by decide) | rfl)))) (fun _ _ _ _ _ => (de_var (pv 9)))))) (dss_cons (ds_asg (ps_N_E (ps_lcN (i := 4) (own := [(("clause" : Str), 9)]) (t := (.one 9)) rfl sc.nd rfl rfl (sw_true rfl rfl rfl (by decide +kernel)) (di_seq (dr_var (pv 0))) (by kernel_rfl) (by decide) (fun _ _ _ _ _ => (pg_name (i := 9) sc.nd rfl (by first | exact Or.inl rfl | exact Or.inr rfl))) (fun _ _ _ _ _ => (dts_one (dt_cmp (dc_notIn hu65 (DE.r (de_callB cd_abs (by rfl) B.abs PyProof.Rows.boot_abs (da_cons (DE.r (de_ix hu65 (dr_var (pv 9)) (DE.r de_int) (fun _ _ => rfl) (fun _ _ => rfl))) da_nil))) (dr_var (pv 2))) (by first | exact nobehind _ (by decide) (by decide) | rfl)))) (fun _ _ _ _ _ => (de_var (pv 9)))))) (dss_cons (ds_set (i := 5) sc.nd rfl (by first | exact Or.inl rfl | exact Or.inr rfl) (de_call D_self hr (Nat.le_refl _) (takes_of rfl rfl rfl rfl) rfl (dar_cons (de_var (pv 4)) dar_nil) rfl (len_cons len_nil))) (dss_cons (ds_set (i := 6) sc.nd rfl (by first | exact Or.inl rfl | exact Or.inr rfl) de_int) (dss_cons (ds_for (t := (.one 7)) (passes_of rfl) rfl (dis_seq (de_tup (dar_cons (de_ix hu65 (dr_var (pv 1)) (DE.r de_int) (fun _ _ => rfl) (fun _ _ => rfl)) (dar_cons (de_un und_neg (DE.r (de_ix hu65 (dr_var (pv 1)) (DE.r de_int) (fun _ _ => rfl) (fun _ _ => rfl)))) dar_nil)))) (pg_name (i := 7) sc.nd rfl (by first | exact Or.inl rfl | exact Or.inr rfl)) (dss_cons (ds_set (i := 8) sc.nd rfl (by first | exact Or.inl rfl | exact Or.inr rfl) (de_call D_self hr (Nat.le_refl _) (takes_of rfl rfl rfl rfl) rfl (dar_cons (de_call D_when_true hr (by omega) (takes_of rfl rfl rfl rfl) rfl (dar_cons (de_var (pv 3)) (dar_cons (de_var (pv 7)) dar_nil)) rfl (len_cons (len_cons len_nil))) dar_nil) rfl (len_cons len_nil))) (dss_one (ds_set (i := 6) sc.nd rfl (by first | exact Or.inl rfl | exact Or.inr rfl) (de_bin opd_add (dr_var (pv 6)) (DE.r (de_bin opd_mul (DE.r (de_ix hu65 (dr_var (pv 8)) (DE.r de_int) (fun _ _ => rfl) (fun _ _ => rfl))) (DE.r (de_call D_powers hr (by omega) (takes_of rfl rfl rfl rfl) rfl (dar_cons (de_bin opd_sub (DE.r (de_bin opd_sub (DE.r (de_callB cd_len (by rfl) B.len PySem.boot_len (da_cons (dr_var (pv 2)) da_nil))) (DE.r de_int))) (DE.r (de_ix hu65 (dr_var (pv 8)) (DE.r de_int) (fun _ _ => rfl) (fun _ _ => rfl)))) dar_nil) rfl (len_cons len_nil)))))))))) (dss_one (ds_ret (de_tup (dar_cons (de_bin opd_mul (dr_var (pv 6)) (DE.r (de_ix hu65 (dr_var (pv 5)) (DE.r de_int) (fun _ _ => rfl) (fun _ _ => rfl)))) (dar_cons (de_callB cd_len (by rfl) B.len PySem.boot_len (da_cons (dr_var (pv 1)) da_nil)) dar_nil)))))))))))))))
/-! ### counted -/
def s0_counted : List Sl → SO :=
  (mSet 2 (fun S => ((aCons (getF 1) aNil) S).bind (f_counted_part 30)))
def s1_counted : List Sl → SO :=
  (mRet (m2 mulD (m2 ixD (getV 2) (cst (.int 0))) (fun S => ((aCons (m2 subD (getV 0) (m2 ixD (getV 2) (cst (.int 1)))) aNil) S).bind f_powers)))
def m_counted : List Sl → SO :=
  (mSeq s0_counted s1_counted)
def f_counted : List D → R D := runDef 3 2 m_counted
theorem sc_counted : FnScope ["variables", "clauses", "part"] ["variables", "clauses"] (defScope (top 15)) := ⟨rfl, rfl, rfl, by decide +kernel, rfl, by decide +kernel, by decide +kernel⟩
theorem ok_counted {P : Program} {w : World} {K : PySem.W.Frag} {mg : Str → Option Value} {base : Heap} {C : CL} {f : Addr} {fd : FuncData} (F : Fun K "counted" "counted" (top 15) f fd) (hm : mg "counted" = some (.ref f)) (b : Binds K fd ["variables", "clauses"] []) (B : Blt mg) (G : Cst mg) (D_counted_part : Def P w K mg base C 32 "counted_part" ["clauses"] (f_counted_part 30)) (D_powers : Def P w K mg base C 1 "powers" ["many"] f_powers) :
    Def P w K mg base C 33 "counted" ["variables", "clauses"] f_counted := by
  unfold f_counted
  refine Def.mk' (m := m_counted) rfl rfl F sc_counted hm b fun cdv A outer s H E hr => ?_
  have hu65 : (A.deeper (envOfC "counted" (defScope (top 15)) s.heap.objs.size f cdv)).units + 65 < cLine := by have := hr.un; omega
  have hu64 := Nat.lt_of_succ_lt hu65
  have hu1 : (A.deeper (envOfC "counted" (defScope (top 15)) s.heap.objs.size f cdv)).units + 1 < cLine := by omega
  have sc := sc_counted
  exact (dss_cons (ds_set (i := 2) sc.nd rfl (by first | exact Or.inl rfl | exact Or.inr rfl) (de_call D_counted_part hr (by decide) (takes_of rfl rfl rfl rfl) rfl (dar_cons (de_var (pv 1)) dar_nil) rfl (len_cons len_nil))) (dss_one (ds_ret (de_bin opd_mul (DE.r (de_ix hu65 (dr_var (pv 2)) (DE.r de_int) (fun _ _ => rfl) (fun _ _ => rfl))) (DE.r (de_call D_powers hr (by decide) (takes_of rfl rfl rfl rfl) rfl (dar_cons (de_bin opd_sub (dr_var (pv 0)) (DE.r (de_ix hu65 (dr_var (pv 2)) (DE.r de_int) (fun _ _ => rfl) (fun _ _ => rfl)))) dar_nil) rfl (len_cons len_nil)))))))
/-! ### _law_cell -/
def s0__law_cell : List Sl → SO :=
  (mIfS (fun S => ((getV 0) S).bind trD) (mRet (m2 ixD (getV 0) (m2 modD (getV 1) (fun S => ((aCons (getV 0) aNil) S).bind (on1 lenD))))) mSkip)
def s1__law_cell : List Sl → SO :=
  (mRet (cst (.int 0)))
def m__law_cell : List Sl → SO :=
  (mSeq s0__law_cell s1__law_cell)
def f__law_cell : List D → R D := runDef 2 2 m__law_cell
theorem sc__law_cell : FnScope ["_law_script", "_law_k"] ["_law_script", "_law_k"] (defScope (top 17)) := ⟨rfl, rfl, rfl, by decide +kernel, rfl, by decide +kernel, by decide +kernel⟩
theorem ok__law_cell {P : Program} {w : World} {K : PySem.W.Frag} {mg : Str → Option Value} {base : Heap} {C : CL} {f : Addr} {fd : FuncData} (F : Fun K "_law_cell" "_law_cell" (top 17) f fd) (hm : mg "_law_cell" = some (.ref f)) (b : Binds K fd ["_law_script", "_law_k"] []) (B : Blt mg) (G : Cst mg)  :
    Def P w K mg base C 1 "_law_cell" ["_law_script", "_law_k"] f__law_cell := by
  unfold f__law_cell
  refine Def.mk' (m := m__law_cell) rfl rfl F sc__law_cell hm b fun cdv A outer s H E hr => ?_
  have hu65 : (A.deeper (envOfC "_law_cell" (defScope (top 17)) s.heap.objs.size f cdv)).units + 65 < cLine := by have := hr.un; omega
  have hu64 := Nat.lt_of_succ_lt hu65
  have hu1 : (A.deeper (envOfC "_law_cell" (defScope (top 17)) s.heap.objs.size f cdv)).units + 1 < cLine := by omega
  have sc := sc__law_cell
  exact (dss_cons (ds_if (dt_tru (dr_var (pv 0)) (fun _ => rfl)) (dss_one (ds_ret (de_ix hu65 (dr_var (pv 0)) (DE.r (de_bin opd_mod (dr_var (pv 1)) (DE.r (de_callB cd_len (by rfl) B.len PySem.boot_len (da_cons (dr_var (pv 0)) da_nil))))) (fun _ _ => rfl) (fun _ _ => rfl)))) dss_nil) (dss_one (ds_ret de_int)))
/-! ### _law_mix -/
def s0__law_mix : List Sl → SO :=
  (mSet 2 (m2 modD (m2 addD (fun S => ((aCons (getF 0) (aCons (getF 1) aNil)) S).bind f__law_cell) (m2 mulD (cst (.int 104729)) (m2 addD (getV 1) (cst (.int 1))))) (cst (.int 4294967291))))
def s1__law_mix : List Sl → SO :=
  (mSet 2 (m2 modD (m2 mulD (getV 2) (cst (.int 48271))) (cst (.int 4294967279))))
def s2__law_mix : List Sl → SO :=
  (mRet (m2 modD (m2 addD (m2 mulD (m2 fdivD (getV 2) (cst (.int 64))) (cst (.int 69621))) (getV 2)) (cst (.int 4294967231))))
def m__law_mix : List Sl → SO :=
  (mSeq s0__law_mix (mSeq s1__law_mix s2__law_mix))
def f__law_mix : List D → R D := runDef 3 2 m__law_mix
theorem sc__law_mix : FnScope ["_law_script", "_law_k", "_law_number"] ["_law_script", "_law_k"] (defScope (top 18)) := ⟨rfl, rfl, rfl, by decide +kernel, rfl, by decide +kernel, by decide +kernel⟩
theorem ok__law_mix {P : Program} {w : World} {K : PySem.W.Frag} {mg : Str → Option Value} {base : Heap} {C : CL} {f : Addr} {fd : FuncData} (F : Fun K "_law_mix" "_law_mix" (top 18) f fd) (hm : mg "_law_mix" = some (.ref f)) (b : Binds K fd ["_law_script", "_law_k"] []) (B : Blt mg) (G : Cst mg) (D__law_cell : Def P w K mg base C 1 "_law_cell" ["_law_script", "_law_k"] f__law_cell) :
    Def P w K mg base C 2 "_law_mix" ["_law_script", "_law_k"] f__law_mix := by
  unfold f__law_mix
  refine Def.mk' (m := m__law_mix) rfl rfl F sc__law_mix hm b fun cdv A outer s H E hr => ?_
  have hu65 : (A.deeper (envOfC "_law_mix" (defScope (top 18)) s.heap.objs.size f cdv)).units + 65 < cLine := by have := hr.un; omega
  have hu64 := Nat.lt_of_succ_lt hu65
  have hu1 : (A.deeper (envOfC "_law_mix" (defScope (top 18)) s.heap.objs.size f cdv)).units + 1 < cLine := by omega
  have sc := sc__law_mix
  exact (dss_cons (ds_set (i := 2) sc.nd rfl (by first | exact Or.inl rfl | exact Or.inr rfl) (de_bin opd_mod (DE.r (de_bin opd_add (DE.r (de_call D__law_cell hr (by decide) (takes_of rfl rfl rfl rfl) rfl (dar_cons (de_var (pv 0)) (dar_cons (de_var (pv 1)) dar_nil)) rfl (len_cons (len_cons len_nil)))) (DE.r (de_bin opd_mul (DE.r de_int) (DE.r (de_bin opd_add (dr_var (pv 1)) (DE.r de_int))))))) (DE.r de_int))) (dss_cons (ds_set (i := 2) sc.nd rfl (by first | exact Or.inl rfl | exact Or.inr rfl) (de_bin opd_mod (DE.r (de_bin opd_mul (dr_var (pv 2)) (DE.r de_int))) (DE.r de_int))) (dss_one (ds_ret (de_bin opd_mod (DE.r (de_bin opd_add (DE.r (de_bin opd_mul (DE.r (de_bin opd_fdiv (dr_var (pv 2)) (DE.r de_int))) (DE.r de_int))) (dr_var (pv 2)))) (DE.r de_int))))))
/-! ### _law_whole -/
def s0__law_whole : List Sl → SO :=
  (mRet (mAnd2 (fun S => ((getV 0) S).bind (isiD "int")) (mNot (fun S => ((getV 0) S).bind (isiD "bool")))))
def m__law_whole : List Sl → SO :=
  s0__law_whole
def f__law_whole : List D → R D := runDef 1 1 m__law_whole
theorem sc__law_whole : FnScope ["_law_found"] ["_law_found"] (defScope (top 19)) := ⟨rfl, rfl, rfl, by decide +kernel, rfl, by decide +kernel, by decide +kernel⟩
theorem ok__law_whole {P : Program} {w : World} {K : PySem.W.Frag} {mg : Str → Option Value} {base : Heap} {C : CL} {f : Addr} {fd : FuncData} (F : Fun K "_law_whole" "_law_whole" (top 19) f fd) (hm : mg "_law_whole" = some (.ref f)) (b : Binds K fd ["_law_found"] []) (B : Blt mg) (G : Cst mg)  :
    Def P w K mg base C 1 "_law_whole" ["_law_found"] f__law_whole := by
  unfold f__law_whole
  refine Def.mk' (m := m__law_whole) rfl rfl F sc__law_whole hm b fun cdv A outer s H E hr => ?_
  have hu65 : (A.deeper (envOfC "_law_whole" (defScope (top 19)) s.heap.objs.size f cdv)).units + 65 < cLine := by have := hr.un; omega
  have hu64 := Nat.lt_of_succ_lt hu65
  have hu1 : (A.deeper (envOfC "_law_whole" (defScope (top 19)) s.heap.objs.size f cdv)).units + 1 < cLine := by omega
  have sc := sc__law_whole
  exact (dss_one (ds_ret (de_and (de_isi (by rfl) B.isinstance (by rfl) B.int PyProof.Rows.boot_int (dr_var (pv 0))) (de_one (de_not (DE.r (de_isi (by rfl) B.isinstance (by rfl) B.bool PyProof.Rows.boot_bool (dr_var (pv 0)))))))))
/-! ### _law_clause -/
def s0__law_clause : List Sl → SO :=
  (mSet 4 (fun S => ((aCons (getF 0) (aCons (getF 1) aNil)) S).bind f__law_mix))
def s1__law_clause : List Sl → SO :=
  (mSet 5 (m2 ixD (fun S => ((aLim (aCons (cst (.int 1)) (aCons (cst (.int 2)) (aCons (cst (.int 3)) (aCons (cst (.int 2)) (aCons (cst (.int 3)) (aCons (m2 modD (m2 fdivD (getV 4) (cst (.int 6))) (m2 addD (getV 3) (cst (.int 1)))) aNil))))))) S).bind fun ds => .ok (.lst ds)) (m2 modD (getV 4) (cst (.int 6)))))
def s2__law_clause : List Sl → SO :=
  (mSetN 6 (aLim aNil))
def i0__law_clause : List Sl → R (List D) :=
  (fun S => ((aCons (getV 5) aNil) S).bind rng1)
def b0__law_clause : List Sl → SO :=
  (mSeq (mSet 8 (fun S => ((aCons (getF 0) (aCons (m2 addD (m2 addD (getV 1) (cst (.int 1))) (getV 7)) aNil)) S).bind f__law_mix)) (mApp 6 (m2 mulD (m2 addD (cst (.int 1)) (m2 modD (m2 fdivD (getV 8) (cst (.int 2))) (getV 2))) (m2 subD (cst (.int 1)) (m2 mulD (cst (.int 2)) (m2 modD (getV 8) (cst (.int 2))))))))
def s3__law_clause : List Sl → SO :=
  (mFor (.one 7) i0__law_clause b0__law_clause)
def s4__law_clause : List Sl → SO :=
  (mRet (fun S => ((aCons (getV 6) aNil) S).bind (on1 tupD)))
def m__law_clause : List Sl → SO :=
  (mSeq s0__law_clause (mSeq s1__law_clause (mSeq s2__law_clause (mSeq s3__law_clause s4__law_clause))))
def f__law_clause : List D → R D := runDef 9 4 m__law_clause
theorem sc__law_clause : FnScope ["_law_script", "_law_base", "_law_variables", "_law_most", "_law_number", "_law_size", "_law_found", "_law_k", "_law_part"] ["_law_script", "_law_base", "_law_variables", "_law_most"] (defScope (top 21)) := ⟨rfl, rfl, rfl, by decide +kernel, rfl, by decide +kernel, by decide +kernel⟩
theorem ok__law_clause {P : Program} {w : World} {K : PySem.W.Frag} {mg : Str → Option Value} {base : Heap} {C : CL} {f : Addr} {fd : FuncData} (F : Fun K "_law_clause" "_law_clause" (top 21) f fd) (hm : mg "_law_clause" = some (.ref f)) (b : Binds K fd ["_law_script", "_law_base", "_law_variables", "_law_most"] []) (B : Blt mg) (G : Cst mg) (D__law_mix : Def P w K mg base C 2 "_law_mix" ["_law_script", "_law_k"] f__law_mix) :
    Def P w K mg base C 3 "_law_clause" ["_law_script", "_law_base", "_law_variables", "_law_most"] f__law_clause := by
  unfold f__law_clause
  refine Def.mk' (m := m__law_clause) rfl rfl F sc__law_clause hm b fun cdv A outer s H E hr => ?_
  have hu65 : (A.deeper (envOfC "_law_clause" (defScope (top 21)) s.heap.objs.size f cdv)).units + 65 < cLine := by have := hr.un; omega
  have hu64 := Nat.lt_of_succ_lt hu65
  have hu1 : (A.deeper (envOfC "_law_clause" (defScope (top 21)) s.heap.objs.size f cdv)).units + 1 < cLine := by omega
  have sc := sc__law_clause
  exact (dss_cons (ds_set (i := 4) sc.nd rfl (by first | exact Or.inl rfl | exact Or.inr rfl) (de_call D__law_mix hr (by decide) (takes_of rfl rfl rfl rfl) rfl (dar_cons (de_var (pv 0)) (dar_cons (de_var (pv 1)) dar_nil)) rfl (len_cons (len_cons len_nil)))) (dss_cons (ds_set (i := 5) sc.nd rfl (by first | exact Or.inl rfl | exact Or.inr rfl) (de_ix hu65 (DE.r (DN.de (dn_lst (dar_cons de_int (dar_cons de_int (dar_cons de_int (dar_cons de_int (dar_cons de_int (dar_cons (de_bin opd_mod (DE.r (de_bin opd_fdiv (dr_var (pv 4)) (DE.r de_int))) (DE.r (de_bin opd_add (dr_var (pv 3)) (DE.r de_int)))) dar_nil))))))))) (DE.r (de_bin opd_mod (dr_var (pv 4)) (DE.r de_int))) (fun _ _ => rfl) (fun _ _ => rfl))) (dss_cons (ds_setN (i := 6) sc.nd rfl (by first | exact Or.inl rfl | exact Or.inr rfl) (dn_lst dar_nil)) (dss_cons (ds_for (t := (.one 7)) (passes_of rfl) rfl (dis_range1 (by rfl) B.range (da_cons (dr_var (pv 5)) da_nil)) (pg_name (i := 7) sc.nd rfl (by first | exact Or.inl rfl | exact Or.inr rfl)) (dss_cons (ds_set (i := 8) sc.nd rfl (by first | exact Or.inl rfl | exact Or.inr rfl) (de_call D__law_mix hr (by decide) (takes_of rfl rfl rfl rfl) rfl (dar_cons (de_var (pv 0)) (dar_cons (de_bin opd_add (DE.r (de_bin opd_add (dr_var (pv 1)) (DE.r de_int))) (dr_var (pv 7))) dar_nil)) rfl (len_cons (len_cons len_nil)))) (dss_one (ds_app (pv 6) (de_bin opd_mul (DE.r (de_bin opd_add (DE.r de_int) (DE.r (de_bin opd_mod (DE.r (de_bin opd_fdiv (dr_var (pv 8)) (DE.r de_int))) (dr_var (pv 2)))))) (DE.r (de_bin opd_sub (DE.r de_int) (DE.r (de_bin opd_mul (DE.r de_int) (DE.r (de_bin opd_mod (dr_var (pv 8)) (DE.r de_int)))))))))))) (dss_one (ds_ret (de_callT cd_tup (by rfl) B.tuple PyProof.Rows.boot_tuple (da_cons (dr_var (pv 6)) da_nil))))))))
/-! ### _law_formula -/
def s0__law_formula : List Sl → SO :=
  (mSet 2 (m2 addD (cst (.int 1)) (m2 modD (fun S => ((aCons (getF 0) (aCons (getF 1) aNil)) S).bind f__law_mix) (cst (.int 4)))))
def s1__law_formula : List Sl → SO :=
  (mSet 3 (m2 modD (fun S => ((aCons (getF 0) (aCons (m2 addD (getV 1) (cst (.int 1))) aNil)) S).bind f__law_mix) (cst (.int 9))))
def i0__law_formula : List Sl → R (List D) :=
  (fun S => ((aCons (getV 3) aNil) S).bind rng1)
def e0__law_formula : List Sl → R D :=
  (fun S => ((aCons (getF 0) (aCons (m2 addD (m2 addD (getV 1) (cst (.int 2))) (m2 mulD (cst (.int 5)) (getV 4))) (aCons (getF 2) (aCons (cst (.int 4)) aNil)))) S).bind f__law_clause)
def s2__law_formula : List Sl → SO :=
  (mRet (fun S => (aLim (aCons (getF 2) (aCons (fun S => ((mLc (.one 4) [4] i0__law_formula mYes e0__law_formula) S).bind fun ds => .ok (.lst ds)) aNil)) S).bind fun ds => .ok (.tup ds)))
def m__law_formula : List Sl → SO :=
  (mSeq s0__law_formula (mSeq s1__law_formula s2__law_formula))
def f__law_formula : List D → R D := runDef 5 2 m__law_formula
theorem sc__law_formula : FnScope ["_law_script", "_law_base", "_law_variables", "_law_many", "_law_k"] ["_law_script", "_law_base"] (defScope (top 22)) := ⟨rfl, rfl, rfl, by decide +kernel, rfl, by decide +kernel, by decide +kernel⟩
theorem ok__law_formula {P : Program} {w : World} {K : PySem.W.Frag} {mg : Str → Option Value} {base : Heap} {C : CL} {f : Addr} {fd : FuncData} (F : Fun K "_law_formula" "_law_formula" (top 22) f fd) (hm : mg "_law_formula" = some (.ref f)) (b : Binds K fd ["_law_script", "_law_base"] []) (B : Blt mg) (G : Cst mg) (D__law_mix : Def P w K mg base C 2 "_law_mix" ["_law_script", "_law_k"] f__law_mix) (D__law_clause : Def P w K mg base C 3 "_law_clause" ["_law_script", "_law_base", "_law_variables", "_law_most"] f__law_clause) :
    Def P w K mg base C 4 "_law_formula" ["_law_script", "_law_base"] f__law_formula := by
  unfold f__law_formula
  refine Def.mk' (m := m__law_formula) rfl rfl F sc__law_formula hm b fun cdv A outer s H E hr => ?_
  have hu65 : (A.deeper (envOfC "_law_formula" (defScope (top 22)) s.heap.objs.size f cdv)).units + 65 < cLine := by have := hr.un; omega
  have hu64 := Nat.lt_of_succ_lt hu65
  have hu1 : (A.deeper (envOfC "_law_formula" (defScope (top 22)) s.heap.objs.size f cdv)).units + 1 < cLine := by omega
  have sc := sc__law_formula
  exact (dss_cons (ds_set (i := 2) sc.nd rfl (by first | exact Or.inl rfl | exact Or.inr rfl) (de_bin opd_add (DE.r de_int) (DE.r (de_bin opd_mod (DE.r (de_call D__law_mix hr (by decide) (takes_of rfl rfl rfl rfl) rfl (dar_cons (de_var (pv 0)) (dar_cons (de_var (pv 1)) dar_nil)) rfl (len_cons (len_cons len_nil)))) (DE.r de_int))))) (dss_cons (ds_set (i := 3) sc.nd rfl (by first | exact Or.inl rfl | exact Or.inr rfl) (de_bin opd_mod (DE.r (de_call D__law_mix hr (by decide) (takes_of rfl rfl rfl rfl) rfl (dar_cons (de_var (pv 0)) (dar_cons (de_bin opd_add (dr_var (pv 1)) (DE.r de_int)) dar_nil)) rfl (len_cons (len_cons len_nil)))) (DE.r de_int))) (dss_one (ds_ret (de_tup (dar_cons (de_var (pv 2)) (dar_cons (DN.de (dn_lc (own := [(("_law_k" : Str), 4)]) (t := (.one 4)) rfl sc.nd (DIS.i (dis_range1 (by rfl) B.range (da_cons (dr_var (pv 3)) da_nil))) (by kernel_rfl) (by decide) (fun _ _ _ _ _ => (pg_name (i := 4) sc.nd rfl (by first | exact Or.inl rfl | exact Or.inr rfl))) (fun _ _ _ _ _ => dts_nil) (fun _ _ _ _ _ => (de_call D__law_clause hr (by decide) takes0 rfl (dar_cons (de_var (pv 0)) (dar_cons (de_bin opd_add (DE.r (de_bin opd_add (dr_var (pv 1)) (DE.r de_int))) (DE.r (de_bin opd_mul (DE.r de_int) (dr_var (pv 4))))) (dar_cons (de_var (pv 2)) (dar_cons de_int dar_nil)))) rfl (len_cons (len_cons (len_cons (len_cons len_nil)))))))) dar_nil)))))))
/-! ### _law_models -/
def s0__law_models : List Sl → SO :=
  (mSetN 2 (aLim aNil))
def i0__law_models : List Sl → R (List D) :=
  (fun S => ((aCons (m2 ixD (fun S => ((aLim (aCons (cst (.int 1)) (aCons (cst (.int 2)) (aCons (cst (.int 4)) (aCons (cst (.int 8)) (aCons (cst (.int 16)) (aCons (cst (.int 32)) aNil))))))) S).bind fun ds => .ok (.lst ds)) (getV 0)) aNil) S).bind rng1)
def i1__law_models : List Sl → R (List D) :=
  (fun S => ((aCons (getV 0) aNil) S).bind rng1)
def b0__law_models : List Sl → SO :=
  (mApp 4 (m2 mulD (m2 addD (getV 5) (cst (.int 1))) (m2 subD (m2 mulD (cst (.int 2)) (m2 modD (m2 fdivD (getV 3) (m2 ixD (fun S => ((aLim (aCons (cst (.int 1)) (aCons (cst (.int 2)) (aCons (cst (.int 4)) (aCons (cst (.int 8)) (aCons (cst (.int 16)) aNil)))))) S).bind fun ds => .ok (.lst ds)) (m2 subD (m2 subD (getV 0) (cst (.int 1))) (getV 5)))) (cst (.int 2)))) (cst (.int 1)))))
def e0__law_models : List Sl → R D :=
  (m2 inD (getV 7) (getV 4))
def e1__law_models : List Sl → R D :=
  (fun S => ((aCons (fun S => ((mLc (.one 7) [7] (mItems (getV 6)) mYes e0__law_models) S).bind fun ds => .ok (.lst ds)) aNil) S).bind (on1 anyD))
def b1__law_models : List Sl → SO :=
  (mSeq (mSetN 4 (aLim aNil)) (mSeq (mFor (.one 5) i1__law_models b0__law_models) (mIfS (fun S => ((fun S => ((aCons (fun S => ((mLc (.one 6) [6] (mItems (getV 1)) mYes e1__law_models) S).bind fun ds => .ok (.lst ds)) aNil) S).bind (on1 allD)) S).bind trD) (mApp 2 (fun S => ((aCons (getV 4) aNil) S).bind (on1 tupD))) mSkip)))
def s1__law_models : List Sl → SO :=
  (mFor (.one 3) i0__law_models b1__law_models)
def s2__law_models : List Sl → SO :=
  (mRet (getF 2))
def m__law_models : List Sl → SO :=
  (mSeq s0__law_models (mSeq s1__law_models (mSeq (mFrz 2) s2__law_models)))
def f__law_models : List D → R D := runDef 8 2 m__law_models
theorem sc__law_models : FnScope ["_law_variables", "_law_clauses", "_law_found", "_law_number", "_law_model", "_law_k", "_law_clause_here", "_law_one"] ["_law_variables", "_law_clauses"] (defScope (top 23)) := ⟨rfl, rfl, rfl, by decide +kernel, rfl, by decide +kernel, by decide +kernel⟩
theorem ok__law_models {P : Program} {w : World} {K : PySem.W.Frag} {mg : Str → Option Value} {base : Heap} {C : CL} {f : Addr} {fd : FuncData} (F : Fun K "_law_models" "_law_models" (top 23) f fd) (hm : mg "_law_models" = some (.ref f)) (b : Binds K fd ["_law_variables", "_law_clauses"] []) (B : Blt mg) (G : Cst mg)  :
    Def P w K mg base C 1 "_law_models" ["_law_variables", "_law_clauses"] f__law_models := by
  unfold f__law_models
  refine Def.mk' (m := m__law_models) rfl rfl F sc__law_models hm b fun cdv A outer s H E hr => ?_
  have hu65 : (A.deeper (envOfC "_law_models" (defScope (top 23)) s.heap.objs.size f cdv)).units + 65 < cLine := by have := hr.un; omega
  have hu64 := Nat.lt_of_succ_lt hu65
  have hu1 : (A.deeper (envOfC "_law_models" (defScope (top 23)) s.heap.objs.size f cdv)).units + 1 < cLine := by omega
  have sc := sc__law_models
  exact (dss_cons (ds_setN (i := 2) sc.nd rfl (by first | exact Or.inl rfl | exact Or.inr rfl) (dn_lst dar_nil)) (dss_cons (ds_for (t := (.one 3)) (passes_of rfl) rfl (dis_range1 (by rfl) B.range (da_cons (DE.r (de_ix hu65 (DE.r (DN.de (dn_lst (dar_cons de_int (dar_cons de_int (dar_cons de_int (dar_cons de_int (dar_cons de_int (dar_cons de_int dar_nil))))))))) (dr_var (pv 0)) (fun _ _ => rfl) (fun _ _ => rfl))) da_nil)) (pg_name (i := 3) sc.nd rfl (by first | exact Or.inl rfl | exact Or.inr rfl)) (dss_cons (ds_setN (i := 4) sc.nd rfl (by first | exact Or.inl rfl | exact Or.inr rfl) (dn_lst dar_nil)) (dss_cons (ds_for (t := (.one 5)) (passes_of rfl) rfl (dis_range1 (by rfl) B.range (da_cons (dr_var (pv 0)) da_nil)) (pg_name (i := 5) sc.nd rfl (by first | exact Or.inl rfl | exact Or.inr rfl)) (dss_one (ds_app (pv 4) (de_bin opd_mul (DE.r (de_bin opd_add (dr_var (pv 5)) (DE.r de_int))) (DE.r (de_bin opd_sub (DE.r (de_bin opd_mul (DE.r de_int) (DE.r (de_bin opd_mod (DE.r (de_bin opd_fdiv (dr_var (pv 3)) (DE.r (de_ix hu65 (DE.r (DN.de (dn_lst (dar_cons de_int (dar_cons de_int (dar_cons de_int (dar_cons de_int (dar_cons de_int dar_nil)))))))) (DE.r (de_bin opd_sub (DE.r (de_bin opd_sub (dr_var (pv 0)) (DE.r de_int))) (dr_var (pv 5)))) (fun _ _ => rfl) (fun _ _ => rfl))))) (DE.r de_int))))) (DE.r de_int))))))) (dss_one (ds_if (dt_tru (DE.r (de_callB (cd_all rfl) (by rfl) B.all PyProof.Rows.boot_all (da_cons (DE.r (DN.de (dn_lc (own := [(("_law_clause_here" : Str), 6)]) (t := (.one 6)) rfl sc.nd (di_seq (dr_var (pv 1))) (by kernel_rfl) (by decide) (fun _ _ _ _ _ => (pg_name (i := 6) sc.nd rfl (by first | exact Or.inl rfl | exact Or.inr rfl))) (fun _ _ _ _ _ => dts_nil) (fun _ _ _ _ _ => (de_callB (cd_any rfl) (by rfl) B.any PyProof.Rows.boot_any (da_cons (DE.r (DN.de (dn_lc (own := [(("_law_one" : Str), 7)]) (t := (.one 7)) rfl sc.nd (di_seq (dr_var (pv 6))) (by kernel_rfl) (by decide) (fun _ _ _ _ _ => (pg_name (i := 7) sc.nd rfl (by first | exact Or.inl rfl | exact Or.inr rfl))) (fun _ _ _ _ _ => dts_nil) (fun _ _ _ _ _ => (de_cmp (dc_in hu65 (dr_var (pv 7)) (dr_var (pv 4))) (by first | exact nobehind _ (by decide) (by decide) | rfl)))))) da_nil)))))) da_nil))) (fun _ => rfl)) (dss_one (ds_app (pv 2) (de_callT cd_tup (by rfl) B.tuple PyProof.Rows.boot_tuple (da_cons (dr_var (pv 4)) da_nil)))) dss_nil))))) (dss_frz (i := 2) (dss_one (ds_ret (de_var (pv 2)))))))
/-! ### law -/
def s0_law : List Sl → SO :=
  (mSet 1 (fun S => ((aCons (getF 0) (aCons (cst (.int 0)) aNil)) S).bind f__law_formula))
def s1_law : List Sl → SO :=
  (mSet 2 (m2 addD (cst (.int 1)) (m2 modD (fun S => ((aCons (getF 0) (aCons (cst (.int 60)) aNil)) S).bind f__law_mix) (cst (.int 20)))))
def s2_law : List Sl → SO :=
  (mSet 3 (fun S => ((aCons (m2 ixD (getV 1) (cst (.int 0))) (aCons (m2 ixD (getV 1) (cst (.int 1))) aNil)) S).bind f__law_models))
def s3_law : List Sl → SO :=
  (mSet 4 (fun S => ((aCons (m2 ixD (getV 1) (cst (.int 0))) (aCons (fun S => ((fun S => ((aCons (m2 ixD (getV 1) (cst (.int 1))) aNil) S).bind (onN lstD)) S).bind fun ds => .ok (.lst ds)) (aCons (getF 2) aNil))) S).bind f_all_models))
def s4_law : List Sl → SO :=
  (mIfS (tOr2 (tNot1 (fun S => ((fun S => ((getV 4) S).bind (isiD "list")) S).bind trD)) (fun S => ((m2 neD (getV 4) (mSl (getV 3) oNo (oSome (getV 2)))) S).bind tBl)) (mRet (cst (.bl false))) mSkip)
def e0_law : List Sl → R D :=
  (fun S => ((aCons (getF 7) aNil) S).bind f__law_whole)
def e1_law : List Sl → R D :=
  (mAnd2 (fun S => ((getV 9) S).bind (isiD "tuple")) (fun S => ((aCons (fun S => ((mLc (.one 7) [7] (mItems (getV 9)) mYes e0_law) S).bind fun ds => .ok (.lst ds)) aNil) S).bind (on1 allD)))
def s5_law : List Sl → SO :=
  (mIfS (tNot1 (fun S => ((fun S => ((aCons (fun S => ((mLc (.one 9) [9] (mItems (getV 4)) mYes e1_law) S).bind fun ds => .ok (.lst ds)) aNil) S).bind (on1 allD)) S).bind trD)) (mRet (cst (.bl false))) mSkip)
def s6_law : List Sl → SO :=
  (mSet 5 (fun S => ((aCons (m2 ixD (getV 1) (cst (.int 0))) (aCons (fun S => ((fun S => ((aCons (m2 ixD (getV 1) (cst (.int 1))) aNil) S).bind (onN lstD)) S).bind fun ds => .ok (.lst ds)) aNil)) S).bind f_counted))
def s7_law : List Sl → SO :=
  (mIfS (tOr2 (tNot1 (fun S => ((fun S => ((aCons (getF 5) aNil) S).bind f__law_whole) S).bind trD)) (fun S => ((m2 neD (getV 5) (fun S => ((aCons (getV 3) aNil) S).bind (on1 lenD))) S).bind tBl)) (mRet (cst (.bl false))) mSkip)
def s8_law : List Sl → SO :=
  (mSet 6 (fun S => ((aCons (m2 ixD (getV 1) (cst (.int 0))) (aCons (fun S => ((aLim aNil) S).bind fun ds => .ok (.lst ds)) aNil)) S).bind f__law_models))
def s9_law : List Sl → SO :=
  (mSet 7 (m2 ixD (getV 6) (m2 modD (fun S => ((aCons (getF 0) (aCons (cst (.int 61)) aNil)) S).bind f__law_mix) (fun S => ((aCons (getV 6) aNil) S).bind (on1 lenD)))))
def s10_law : List Sl → SO :=
  (mSet 8 (fun S => ((aCons (m2 ixD (getV 1) (cst (.int 1))) (aCons (getF 7) aNil)) S).bind f_satisfied))
def s11_law : List Sl → SO :=
  (mRet (mAnd2 (fun S => ((getV 8) S).bind (isiD "bool")) (m2 eqD (getV 8) (m2 inD (getV 7) (getV 3)))))
def m_law : List Sl → SO :=
  (mSeq s0_law (mSeq s1_law (mSeq s2_law (mSeq s3_law (mSeq s4_law (mSeq s5_law (mSeq s6_law (mSeq s7_law (mSeq s8_law (mSeq s9_law (mSeq s10_law s11_law)))))))))))
def f_law : List D → R D := runDef 10 1 m_law
theorem sc_law : FnScope ["_law_script", "_law_formula_here", "_law_most", "_law_models_here", "_law_found", "_law_many", "_law_some", "_law_one", "_law_answer", "_law_model"] ["_law_script"] (defScope (top 24)) := ⟨rfl, rfl, rfl, by decide +kernel, rfl, by decide +kernel, by decide +kernel⟩
theorem ok_law {P : Program} {w : World} {K : PySem.W.Frag} {mg : Str → Option Value} {base : Heap} {C : CL} {f : Addr} {fd : FuncData} (F : Fun K "law" "law" (top 24) f fd) (B : Blt mg) (G : Cst mg) (D__law_formula : Def P w K mg base C 4 "_law_formula" ["_law_script", "_law_base"] f__law_formula) (D__law_mix : Def P w K mg base C 2 "_law_mix" ["_law_script", "_law_k"] f__law_mix) (D__law_models : Def P w K mg base C 1 "_law_models" ["_law_variables", "_law_clauses"] f__law_models) (D_all_models : Def P w K mg base C 4 "all_models" ["variables", "clauses", "most"] f_all_models) (D__law_whole : Def P w K mg base C 1 "_law_whole" ["_law_found"] f__law_whole) (D_counted : Def P w K mg base C 33 "counted" ["variables", "clauses"] f_counted) (D_satisfied : Def P w K mg base C 3 "satisfied" ["clauses", "model"] f_satisfied) :
    FnOk P w K mg base (L2.CX P w) 34 f fd ["_law_script"] (spD C K 1 f_law) := by
  unfold f_law
  refine Def.mkFn (m := m_law) rfl rfl F sc_law fun cdv A outer s H E hr => ?_
  have hu65 : (A.deeper (envOfC "law" (defScope (top 24)) s.heap.objs.size f cdv)).units + 65 < cLine := by have := hr.un; omega
  have hu64 := Nat.lt_of_succ_lt hu65
  have hu1 : (A.deeper (envOfC "law" (defScope (top 24)) s.heap.objs.size f cdv)).units + 1 < cLine := by omega
  have sc := sc_law
  exact (dss_cons (ds_set (i := 1) sc.nd rfl (by first | exact Or.inl rfl | exact Or.inr rfl) (de_call D__law_formula hr (by decide) (takes_of rfl rfl rfl rfl) rfl (dar_cons (de_var (pv 0)) (dar_cons de_int dar_nil)) rfl (len_cons (len_cons len_nil)))) (dss_cons (ds_set (i := 2) sc.nd rfl (by first | exact Or.inl rfl | exact Or.inr rfl) (de_bin opd_add (DE.r de_int) (DE.r (de_bin opd_mod (DE.r (de_call D__law_mix hr (by decide) (takes_of rfl rfl rfl rfl) rfl (dar_cons (de_var (pv 0)) (dar_cons de_int dar_nil)) rfl (len_cons (len_cons len_nil)))) (DE.r de_int))))) (dss_cons (ds_set (i := 3) sc.nd rfl (by first | exact Or.inl rfl | exact Or.inr rfl) (de_call D__law_models hr (by decide) (takes_of rfl rfl rfl rfl) rfl (dar_cons (de_ix hu65 (dr_var (pv 1)) (DE.r de_int) (fun _ _ => rfl) (fun _ _ => rfl)) (dar_cons (de_ix hu65 (dr_var (pv 1)) (DE.r de_int) (fun _ _ => rfl) (fun _ _ => rfl)) dar_nil)) rfl (len_cons (len_cons len_nil)))) (dss_cons (ds_set (i := 4) sc.nd rfl (by first | exact Or.inl rfl | exact Or.inr rfl) (de_call D_all_models hr (by decide) (takes_of rfl rfl rfl rfl) rfl (dar_cons (de_ix hu65 (dr_var (pv 1)) (DE.r de_int) (fun _ _ => rfl) (fun _ _ => rfl)) (dar_cons (DN.de (dn_callT cn_lst (by rfl) B.list PyProof.Rows.boot_list (da_cons (DE.r (de_ix hu65 (dr_var (pv 1)) (DE.r de_int) (fun _ _ => rfl) (fun _ _ => rfl))) da_nil))) (dar_cons (de_var (pv 2)) dar_nil))) rfl (len_cons (len_cons (len_cons len_nil))))) (dss_cons (ds_if (dt_w (dw_or (dt_not (dt_tru (DE.r (de_isi (by rfl) B.isinstance (by rfl) B.list PyProof.Rows.boot_list (dr_var (pv 4)))) (fun _ => rfl))) (dw_or1 (dt_cmp (dc_op (opd_ne hu64) (dr_var (pv 4)) (DE.r (de_sl (dr_var (pv 3)) do_no (do_some (dr_var (pv 2)))))) (by first | exact nobehind _ (by decide) (by decide) | rfl))))) (dss_one (ds_ret de_bl)) dss_nil) (dss_cons (ds_if (dt_not (dt_tru (DE.r (de_callB (cd_all rfl) (by rfl) B.all PyProof.Rows.boot_all (da_cons (DE.r (DN.de (dn_lc (own := [(("_law_model" : Str), 9)]) (t := (.one 9)) rfl sc.nd (di_seq (dr_var (pv 4))) (by kernel_rfl) (by decide) (fun _ _ _ _ _ => (pg_name (i := 9) sc.nd rfl (by first | exact Or.inl rfl | exact Or.inr rfl))) (fun _ _ _ _ _ => dts_nil) (fun _ _ _ _ _ => (de_and (de_isi (by rfl) B.isinstance (by rfl) B.tuple PyProof.Rows.boot_tuple (dr_var (pv 9))) (de_one (de_callB (cd_all rfl) (by rfl) B.all PyProof.Rows.boot_all (da_cons (DE.r (DN.de (dn_lc (own := [(("_law_one" : Str), 7)]) (t := (.one 7)) rfl sc.nd (di_seq (dr_var (pv 9))) (by kernel_rfl) (by decide) (fun _ _ _ _ _ => (pg_name (i := 7) sc.nd rfl (by first | exact Or.inl rfl | exact Or.inr rfl))) (fun _ _ _ _ _ => dts_nil) (fun _ _ _ _ _ => (de_call D__law_whole hr (by decide) takes0 rfl (dar_cons (de_var (pv 7)) dar_nil) rfl (len_cons len_nil)))))) da_nil)))))))) da_nil))) (fun _ => rfl))) (dss_one (ds_ret de_bl)) dss_nil) (dss_cons (ds_set (i := 5) sc.nd rfl (by first | exact Or.inl rfl | exact Or.inr rfl) (de_call D_counted hr (by decide) (takes_of rfl rfl rfl rfl) rfl (dar_cons (de_ix hu65 (dr_var (pv 1)) (DE.r de_int) (fun _ _ => rfl) (fun _ _ => rfl)) (dar_cons (DN.de (dn_callT cn_lst (by rfl) B.list PyProof.Rows.boot_list (da_cons (DE.r (de_ix hu65 (dr_var (pv 1)) (DE.r de_int) (fun _ _ => rfl) (fun _ _ => rfl))) da_nil))) dar_nil)) rfl (len_cons (len_cons len_nil)))) (dss_cons (ds_if (dt_w (dw_or (dt_not (dt_tru (DE.r (de_call D__law_whole hr (by decide) (takes_of rfl rfl rfl rfl) rfl (dar_cons (de_var (pv 5)) dar_nil) rfl (len_cons len_nil))) (fun _ => rfl))) (dw_or1 (dt_cmp (dc_op (opd_ne hu64) (dr_var (pv 5)) (DE.r (de_callB cd_len (by rfl) B.len PySem.boot_len (da_cons (dr_var (pv 3)) da_nil)))) (by first | exact nobehind _ (by decide) (by decide) | rfl))))) (dss_one (ds_ret de_bl)) dss_nil) (dss_cons (ds_set (i := 6) sc.nd rfl (by first | exact Or.inl rfl | exact Or.inr rfl) (de_call D__law_models hr (by decide) (takes_of rfl rfl rfl rfl) rfl (dar_cons (de_ix hu65 (dr_var (pv 1)) (DE.r de_int) (fun _ _ => rfl) (fun _ _ => rfl)) (dar_cons (DN.de (dn_lst dar_nil)) dar_nil)) rfl (len_cons (len_cons len_nil)))) (dss_cons (ds_set (i := 7) sc.nd rfl (by first | exact Or.inl rfl | exact Or.inr rfl) (de_ix hu65 (dr_var (pv 6)) (DE.r (de_bin opd_mod (DE.r (de_call D__law_mix hr (by decide) (takes_of rfl rfl rfl rfl) rfl (dar_cons (de_var (pv 0)) (dar_cons de_int dar_nil)) rfl (len_cons (len_cons len_nil)))) (DE.r (de_callB cd_len (by rfl) B.len PySem.boot_len (da_cons (dr_var (pv 6)) da_nil))))) (fun _ _ => rfl) (fun _ _ => rfl))) (dss_cons (ds_set (i := 8) sc.nd rfl (by first | exact Or.inl rfl | exact Or.inr rfl) (de_call D_satisfied hr (by decide) (takes_of rfl rfl rfl rfl) rfl (dar_cons (de_ix hu65 (dr_var (pv 1)) (DE.r de_int) (fun _ _ => rfl) (fun _ _ => rfl)) (dar_cons (de_var (pv 7)) dar_nil)) rfl (len_cons (len_cons len_nil)))) (dss_one (ds_ret (de_and (de_isi (by rfl) B.isinstance (by rfl) B.bool PyProof.Rows.boot_bool (dr_var (pv 8))) (de_one (de_cmp (dc_op (opd_eq hu64) (dr_var (pv 8)) (DE.r (de_cmp (dc_in hu65 (dr_var (pv 7)) (dr_var (pv 3))) (by first | exact nobehind _ (by decide) (by decide) | rfl)))) (by first | exact nobehind _ (by decide) (by decide) | rfl)))))))))))))))))
end DL
namespace DL
open PySem L2
/-! ### dicts that are put into; the truths that literals make -/
theorem keyD_put (es : List (Int × D)) (k j : Int) (d : D) : keyD (putD es k d) j = if j = k then some d else keyD es j := by
  have hmap : ∀ es : List (Int × D), (es.any fun e => decide (e.1 = k)) = true → keyD (es.map fun e => if e.1 = k then (e.1, d) else e) j = if j = k then some d else keyD es j := by
    intro es
    induction es with
    | nil => intro h; cases h
    | cons e es ih =>
      intro h
      unfold keyD at ih ⊢
      rw [List.map_cons, List.find?_cons, List.find?_cons]
      by_cases c : e.1 = k
      · rw [if_pos c]
        by_cases cj : j = k
        · subst cj
          simp [c]
        · have : ¬ (e.1 = j) := fun z => cj (z.symm.trans c)
          simp only [this, decide_false]
          rw [if_neg cj]
          by_cases ha : (es.any fun e => decide (e.1 = k)) = true
          · rw [ih ha, if_neg cj]
          · have : (es.map fun e => if e.1 = k then (e.1, d) else e) = es := by
              conv => rhs; rw [← List.map_id es]
              refine List.map_congr_left fun x hx => ?_
              have : ¬ x.1 = k := fun z => ha (List.any_eq_true.mpr ⟨x, hx, decide_eq_true z⟩)
              rw [if_neg this]; rfl
            rw [this]
      · rw [if_neg c]
        have h2 : (es.any fun e => decide (e.1 = k)) = true := by
          rw [List.any_cons, decide_eq_false c, Bool.false_or] at h; exact h
        by_cases cj : e.1 = j
        · simp only [cj, decide_true]
          rw [if_neg (fun z => c (cj.trans z))]
        · simp only [cj, decide_false]
          exact ih h2
  unfold putD
  by_cases c : (es.any fun e => decide (e.1 = k)) = true
  · rw [if_pos c]; exact hmap es c
  · rw [if_neg c]
    unfold keyD
    rw [List.find?_append]
    have hk : ∀ x ∈ es, ¬ x.1 = k := fun x hx z => c (List.any_eq_true.mpr ⟨x, hx, decide_eq_true z⟩)
    by_cases cj : j = k
    · subst cj
      rw [if_pos rfl, List.find?_eq_none.mpr (by intro x hx; simp [hk x hx])]
      simp
    · rw [if_neg cj]
      have : ([(k, d)] : List (Int × D)).find? (fun e => decide (e.1 = j)) = none := by
        rw [List.find?_eq_none]; intro x hx; simp at hx; subst hx; simp; exact fun z => cj z.symm
      rw [this]
      simp
theorem len_put (es : List (Int × D)) (k : Int) (d : D) : (putD es k d).length ≤ es.length + 1 := by
  unfold putD
  split <;> simp
/-- literals, as `made` makes truths of them -/
def madeL (m : List Int) : List (Int × D) := m.foldl (fun es l => putD es (l.natAbs : Int) (.int l)) []
theorem madeL_snoc (m : List Int) (l : Int) : madeL (m ++ [l]) = putD (madeL m) (l.natAbs : Int) (.int l) := by
  unfold madeL
  rw [List.foldl_append]
  rfl
theorem madeL_len (m : List Int) : (madeL m).length ≤ m.length := by
  suffices ∀ m : List Int, (madeL m.reverse).length ≤ m.length by
    have := this m.reverse
    simpa using this
  intro m
  induction m with
  | nil => exact Nat.le_refl _
  | cons l m ih =>
    rw [List.reverse_cons, madeL_snoc]
    have := len_put (madeL m.reverse) (l.natAbs : Int) (.int l)
    simp
    omega
theorem abs_nat (l : Int) : (if l < 0 then -l else l) = (l.natAbs : Int) := by split <;> omega
/-- the truths of an assignment: what is under a number -/
theorem madeL_asg (v : Nat) (σ : Asg) (k : Nat) : keyD (madeL (asg v σ)) (k : Int) = if 1 ≤ k ∧ k ≤ v then some (.int (sg σ k)) else none := by
  induction v with
  | zero =>
    rw [if_neg (by omega)]
    rfl
  | succ v ih =>
    have : asg (v + 1) σ = asg v σ ++ [sg σ (v + 1)] := by unfold asg; rw [List.range_succ, List.map_append]; rfl
    rw [this, madeL_snoc, keyD_put, ih]
    have e : ((sg σ (v + 1)).natAbs : Int) = ((v + 1 : Nat) : Int) := by unfold sg; split <;> omega
    rw [e]
    by_cases c : k = v + 1
    · subst c
      rw [if_pos rfl, if_pos ⟨by omega, by omega⟩]
    · rw [if_neg (by omega)]
      by_cases c2 : 1 ≤ k ∧ k ≤ v
      · rw [if_pos c2, if_pos ⟨by omega, by omega⟩]
      · rw [if_neg c2, if_neg (by omega)]
end DL
/-! Clauses without doubles, coverings: no program in sight. -/
namespace DL
open PySem L2

/-! ### each literal once -/
def unlikeL (c : List Int) : List Int := c.foldl (fun a l => if l ∈ a then a else a ++ [l]) []
theorem unlikeL_snoc (c : List Int) (l : Int) : unlikeL (c ++ [l]) = if l ∈ unlikeL c then unlikeL c else unlikeL c ++ [l] := by
  unfold unlikeL; rw [List.foldl_append]; rfl
theorem snoc_ind {α : Type} {P : List α → Prop} (h0 : P []) (h1 : ∀ c l, P c → P (c ++ [l])) (c : List α) : P c := by
  have : ∀ c : List α, P c.reverse := by
    intro c
    induction c with
    | nil => exact h0
    | cons l c ih => rw [List.reverse_cons]; exact h1 _ _ ih
  have h := this c.reverse
  rwa [List.reverse_reverse] at h
theorem mem_unlikeL (c : List Int) : ∀ x, x ∈ unlikeL c ↔ x ∈ c := by
  refine snoc_ind (P := fun c => ∀ x, x ∈ unlikeL c ↔ x ∈ c) (fun x => Iff.rfl) (fun c l ih x => ?_) c
  rw [unlikeL_snoc]
  split
  · rename_i h
    rw [ih x, List.mem_append]
    constructor
    · exact .inl
    · rintro (h1 | h1)
      · exact h1
      · rw [List.mem_singleton] at h1; subst h1; exact (ih _).mp h
  · rw [List.mem_append, List.mem_append, ih x]
theorem nodup_unlikeL (c : List Int) : (unlikeL c).Nodup := by
  refine snoc_ind (P := fun c => (unlikeL c).Nodup) List.nodup_nil (fun c l ih => ?_) c
  rw [unlikeL_snoc]
  split
  · exact ih
  · rename_i h
    rw [List.nodup_append]
    refine ⟨ih, by simp, ?_⟩
    intro a ha b hb e
    rw [List.mem_singleton] at hb
    subst hb; subst e
    exact h ha
theorem len_unlikeL (c : List Int) : (unlikeL c).length ≤ c.length := by
  refine snoc_ind (P := fun c => (unlikeL c).length ≤ c.length) (Nat.le_refl _) (fun c l ih => ?_) c
  rw [unlikeL_snoc]
  split <;> simp <;> omega
theorem InR_unlikeL {v : Nat} {c : List Int} (h : InR v c) : InR v (unlikeL c) := fun l hl => h l ((mem_unlikeL c l).mp hl)
theorem ct_mono {σ : Asg} {a b : List Int} (h : ∀ l ∈ a, l ∈ b) (q : ct σ a = true) : ct σ b = true := by
  unfold ct at *
  rw [List.any_eq_true] at *
  obtain ⟨l, hl, e⟩ := q
  exact ⟨l, h l hl, e⟩
theorem ct_unlikeL (σ : Asg) (c : List Int) : ct σ (unlikeL c) = ct σ c := by
  rw [Bool.eq_iff_iff]
  exact ⟨ct_mono fun l h => (mem_unlikeL c l).mp h, ct_mono fun l h => (mem_unlikeL c l).mpr h⟩
/-! ### a literal and its opposite -/
def bothL (c : List Int) : Bool := c.any fun l => decide (-l ∈ c)
theorem lt_neg {σ : Asg} {l : Int} (h : l ≠ 0) : lt σ (-l) = !lt σ l := by
  unfold lt
  rw [Int.natAbs_neg]
  by_cases p : 0 < l
  · rw [if_pos p, if_neg (by omega)]
  · rw [if_neg p, if_pos (by omega), Bool.not_not]
theorem ct_both {v : Nat} {σ : Asg} {c : List Int} (hc : InR v c) (h : bothL c = true) : ct σ c = true := by
  unfold bothL at h
  rw [List.any_eq_true] at h
  obtain ⟨l, hl, e⟩ := h
  have e := of_decide_eq_true e
  have hz : l ≠ 0 := by have := (hc l hl).1; omega
  unfold ct
  rw [List.any_eq_true]
  cases q : lt σ l with
  | true => exact ⟨l, hl, q⟩
  | false => exact ⟨-l, e, by rw [lt_neg hz, q]; rfl⟩
/-! ### coverings -/
def cov (a b : List Int) : Bool := a.all fun l => decide (l ∈ b)
theorem cov_iff {a b : List Int} : cov a b = true ↔ ∀ l ∈ a, l ∈ b := by
  unfold cov
  rw [List.all_eq_true]
  exact ⟨fun h l hl => of_decide_eq_true (h l hl), fun h l hl => decide_eq_true (h l hl)⟩
theorem cov_refl (a : List Int) : cov a a = true := cov_iff.mpr fun _ h => h
theorem cov_trans {a b c : List Int} (h1 : cov a b = true) (h2 : cov b c = true) : cov a c = true := cov_iff.mpr fun l h => cov_iff.mp h2 l (cov_iff.mp h1 l h)
theorem len_sub : ∀ {a b : List Int}, a.Nodup → (∀ l ∈ a, l ∈ b) → a.length ≤ b.length
  | [], _, _, _ => Nat.zero_le _
  | x :: a, b, hn, h => by
    rw [List.nodup_cons] at hn
    have hx := h x (List.mem_cons_self ..)
    have := len_sub (a := a) (b := b.erase x) hn.2 fun l hl => (List.mem_erase_of_ne (fun z : l = x => hn.1 (z ▸ hl))).mpr (h l (List.mem_cons_of_mem _ hl))
    rw [List.length_erase_of_mem hx] at this
    have := List.length_pos_of_mem hx
    simp; omega
theorem sub_full {a b : List Int} (hn : a.Nodup) (h : ∀ l ∈ a, l ∈ b) (hl : b.length ≤ a.length) : ∀ l ∈ b, l ∈ a := by
  intro x hx
  by_cases c : x ∈ a
  · exact c
  · have := len_sub (a := a) (b := b.erase x) hn fun l hl => (List.mem_erase_of_ne (fun z : l = x => c (z ▸ hl))).mpr (h l hl)
    rw [List.length_erase_of_mem hx] at this
    have := List.length_pos_of_mem hx
    omega
theorem cov_len {a b : List Int} (hn : a.Nodup) (h : cov a b = true) : a.length ≤ b.length := len_sub hn (cov_iff.mp h)
/-! ### what is left when the covered go -/
def dueStep (s : List (List Int) × List (List Int)) (r : List Int) : List (List Int) × List (List Int) :=
  (s.1 ++ [r], s.2.filter (fun o => !(cov r o && decide (r.length < o.length))) ++ (if s.1.any (fun x => cov x r) = true then [] else [r]))
def dueR (rows : List (List Int)) : List (List Int) := (rows.foldl dueStep ([], [])).2
theorem dueR_snoc (pre : List (List Int)) (r : List Int) : dueR (pre ++ [r]) = (dueR pre).filter (fun o => !(cov r o && decide (r.length < o.length))) ++ (if pre.any (fun x => cov x r) = true then [] else [r]) := by
  have h : ∀ pre : List (List Int), (pre.foldl dueStep ([], [])).1 = pre := by
    intro pre
    refine snoc_ind (P := fun pre => (pre.foldl dueStep ([], [])).1 = pre) rfl (fun c l ih => ?_) pre
    rw [List.foldl_append]
    show (c.foldl dueStep ([], [])).1 ++ [l] = _
    rw [ih]
  unfold dueR
  rw [List.foldl_append]
  show (pre.foldl dueStep ([], [])).2.filter _ ++ (if (pre.foldl dueStep ([], [])).1.any _ = true then _ else _) = _
  rw [h pre]
theorem dueR_sub (rows : List (List Int)) : ∀ o ∈ dueR rows, o ∈ rows := by
  refine snoc_ind (P := fun rows => ∀ o ∈ dueR rows, o ∈ rows) (fun o h => h) (fun pre r ih o h => ?_) rows
  rw [dueR_snoc, List.mem_append] at h
  rw [List.mem_append]
  rcases h with h | h
  · exact .inl (ih o (List.mem_filter.mp h).1)
  · split at h
    · cases h
    · exact .inr h
theorem dueR_min (rows : List (List Int)) (hn : ∀ r ∈ rows, r.Nodup) : ∀ x ∈ rows, ∃ o ∈ dueR rows, cov o x = true := by
  revert hn
  refine snoc_ind (P := fun rows => (∀ r ∈ rows, r.Nodup) → ∀ x ∈ rows, ∃ o ∈ dueR rows, cov o x = true) (fun _ x h => by cases h) (fun pre r ih hn x hx => ?_) rows
  have hn' : ∀ r ∈ pre, r.Nodup := fun y hy => hn y (List.mem_append.mpr (.inl hy))
  have hr : r.Nodup := hn r (by simp)
  have ih := ih hn'
  rw [dueR_snoc]
  have keep : ∀ o ∈ dueR pre, cov o r = true → o ∈ (dueR pre).filter (fun o => !(cov r o && decide (r.length < o.length))) := by
    intro o ho h
    have h1 := cov_len (hn' o (dueR_sub pre o ho)) h
    refine List.mem_filter.mpr ⟨ho, ?_⟩
    rw [decide_eq_false (by omega)]
    simp
  rcases List.mem_append.mp hx with hx | hx
  · obtain ⟨o, ho, e⟩ := ih x hx
    by_cases c : (cov r o && decide (r.length < o.length)) = true
    · rw [Bool.and_eq_true] at c
      by_cases p : pre.any (fun x => cov x r) = true
      · obtain ⟨y, hy, ey⟩ := List.any_eq_true.mp p
        obtain ⟨o', ho', e'⟩ := ih y hy
        have e2 := cov_trans e' ey
        exact ⟨o', List.mem_append.mpr (.inl (keep o' ho' e2)), cov_trans e2 (cov_trans c.1 e)⟩
      · exact ⟨r, List.mem_append.mpr (.inr (by rw [if_neg p]; simp)), cov_trans c.1 e⟩
    · exact ⟨o, List.mem_append.mpr (.inl (List.mem_filter.mpr ⟨ho, by rw [Bool.not_eq_true']; exact Bool.eq_false_iff.mpr c⟩)), e⟩
  · rw [List.mem_singleton] at hx
    subst hx
    by_cases p : pre.any (fun y => cov y x) = true
    · obtain ⟨y, hy, ey⟩ := List.any_eq_true.mp p
      obtain ⟨o', ho', e'⟩ := ih y hy
      have e2 := cov_trans e' ey
      exact ⟨o', List.mem_append.mpr (.inl (keep o' ho' e2)), e2⟩
    · exact ⟨x, List.mem_append.mpr (.inr (by rw [if_neg p]; simp)), cov_refl x⟩
theorem dueR_good (rows : List (List Int)) : ∀ o ∈ dueR rows, ∀ x ∈ rows, ¬(cov x o = true ∧ x.length < o.length) := by
  refine snoc_ind (P := fun rows => ∀ o ∈ dueR rows, ∀ x ∈ rows, ¬(cov x o = true ∧ x.length < o.length)) (fun o h => by cases h) (fun pre r ih o ho x hx => ?_) rows
  rw [dueR_snoc] at ho
  rcases List.mem_append.mp ho with ho | ho
  · obtain ⟨ho, hf⟩ := List.mem_filter.mp ho
    rcases List.mem_append.mp hx with hx | hx
    · exact ih o ho x hx
    · rw [List.mem_singleton] at hx
      subst hx
      rintro ⟨h1, h2⟩
      rw [h1, decide_eq_true h2] at hf
      cases hf
  · split at ho
    · cases ho
    · rename_i p
      rw [List.mem_singleton] at ho
      subst ho
      rintro ⟨h1, h2⟩
      rcases List.mem_append.mp hx with hx | hx
      · exact p (List.any_eq_true.mpr ⟨x, hx, h1⟩)
      · rw [List.mem_singleton] at hx; subst hx; omega
def tidyR (rows : List (List Int)) : List (List Int) := rows.foldl (fun found r => if found.any (fun o => cov o r) = true then found else found.filter (fun o => !cov r o) ++ [r]) []
theorem tidyR_due (rows : List (List Int)) (hn : ∀ r ∈ rows, r.Nodup) : tidyR rows = dueR rows := by
  revert hn
  refine snoc_ind (P := fun rows => (∀ r ∈ rows, r.Nodup) → tidyR rows = dueR rows) (fun _ => rfl) (fun pre r ih hn => ?_) rows
  have hn' : ∀ r ∈ pre, r.Nodup := fun y hy => hn y (List.mem_append.mpr (.inl hy))
  have hr : r.Nodup := hn r (by simp)
  have e : tidyR (pre ++ [r]) = if (tidyR pre).any (fun o => cov o r) = true then tidyR pre else (tidyR pre).filter (fun o => !cov r o) ++ [r] := by
    unfold tidyR; rw [List.foldl_append]; rfl
  rw [e, ih hn', dueR_snoc]
  by_cases p : pre.any (fun x => cov x r) = true
  · obtain ⟨y, hy, ey⟩ := List.any_eq_true.mp p
    obtain ⟨o', ho', e'⟩ := dueR_min pre hn' y hy
    have e2 := cov_trans e' ey
    rw [if_pos (List.any_eq_true.mpr ⟨o', ho', e2⟩), if_pos p, List.append_nil]
    refine (List.filter_eq_self.mpr fun o ho => ?_).symm
    have := dueR_good pre o ho o' (dueR_sub pre o' ho')
    have l1 := cov_len (hn' o' (dueR_sub pre o' ho')) e2
    cases c : (cov r o && decide (r.length < o.length)) with
    | false => rfl
    | true =>
      rw [Bool.and_eq_true, decide_eq_true_iff] at c
      exact absurd ⟨cov_trans e2 c.1, by omega⟩ this
  · have q : ¬ (dueR pre).any (fun o => cov o r) = true := fun h => by
      obtain ⟨o, ho, eo⟩ := List.any_eq_true.mp h
      exact p (List.any_eq_true.mpr ⟨o, dueR_sub pre o ho, eo⟩)
    rw [if_neg q, if_neg p]
    congr 1
    refine List.filter_congr fun o ho => ?_
    cases c : cov r o with
    | false => rfl
    | true =>
      have : r.length < o.length := by
        by_cases h : r.length < o.length
        · exact h
        · have := sub_full hr (cov_iff.mp c) (by omega)
          exact absurd (show pre.any (fun x => cov x r) = true from List.any_eq_true.mpr ⟨o, dueR_sub pre o ho, cov_iff.mpr this⟩) p
      rw [decide_eq_true this]; rfl
theorem ft_dueR (σ : Asg) (rows : List (List Int)) (hn : ∀ r ∈ rows, r.Nodup) : ft σ (dueR rows) = ft σ rows := by
  unfold ft
  rw [Bool.eq_iff_iff, List.all_eq_true, List.all_eq_true]
  constructor
  · intro h x hx
    obtain ⟨o, ho, e⟩ := dueR_min rows hn x hx
    exact ct_mono (cov_iff.mp e) (h o ho)
  · intro h o ho
    exact h o (dueR_sub rows o ho)
/-- the rows: each literal once, none with its opposite -/
def rowsL (f : List (List Int)) : List (List Int) := (f.map unlikeL).filter fun c => !bothL c
theorem rowsL_nodup (f : List (List Int)) : ∀ r ∈ rowsL f, r.Nodup := by
  intro r hr
  obtain ⟨c, _, rfl⟩ := List.mem_map.mp (List.mem_filter.mp hr).1
  exact nodup_unlikeL c
theorem rowsL_in {v : Nat} {f : List (List Int)} (hf : ∀ c ∈ f, InR v c) : ∀ r ∈ rowsL f, InR v r := by
  intro r hr
  obtain ⟨c, hc, rfl⟩ := List.mem_map.mp (List.mem_filter.mp hr).1
  exact InR_unlikeL (hf c hc)
theorem ft_rowsL {v : Nat} (σ : Asg) {f : List (List Int)} (hf : ∀ c ∈ f, InR v c) : ft σ (rowsL f) = ft σ f := by
  unfold ft rowsL
  rw [Bool.eq_iff_iff, List.all_eq_true, List.all_eq_true]
  constructor
  · intro h c hc
    by_cases b : bothL (unlikeL c) = true
    · rw [← ct_unlikeL]; exact ct_both (InR_unlikeL (hf c hc)) b
    · rw [← ct_unlikeL]; exact h _ (List.mem_filter.mpr ⟨List.mem_map.mpr ⟨c, hc, rfl⟩, by simpa using b⟩)
  · intro h r hr
    obtain ⟨c, hc, rfl⟩ := List.mem_map.mp (List.mem_filter.mp hr).1
    rw [ct_unlikeL]; exact h c hc
def tidyL (f : List (List Int)) : List (List Int) := f.foldl (fun found c => if (!bothL (unlikeL c) && !(found.any fun o => cov o (unlikeL c))) = true then found.filter (fun o => !cov (unlikeL c) o) ++ [unlikeL c] else found) []
theorem tidyL_rows (f : List (List Int)) : tidyL f = tidyR (rowsL f) := by
  refine snoc_ind (P := fun f => tidyL f = tidyR (rowsL f)) rfl (fun f c ih => ?_) f
  have e1 : tidyL (f ++ [c]) = if (!bothL (unlikeL c) && !((tidyL f).any fun o => cov o (unlikeL c))) = true then (tidyL f).filter (fun o => !cov (unlikeL c) o) ++ [unlikeL c] else tidyL f := by
    unfold tidyL; rw [List.foldl_append]; rfl
  rw [e1, ih]
  unfold rowsL
  rw [List.map_append, List.filter_append]
  cases b : bothL (unlikeL c) with
  | true => simp [b]
  | false =>
    have : ([c].map unlikeL).filter (fun c => !bothL c) = [unlikeL c] := by simp [b]
    rw [this]
    conv => rhs; unfold tidyR; rw [List.foldl_append]
    show _ = if (tidyR (rowsL f)).any (fun o => cov o (unlikeL c)) = true then tidyR (rowsL f) else (tidyR (rowsL f)).filter (fun o => !cov (unlikeL c) o) ++ [unlikeL c]
    rw [show List.filter (fun c => !bothL c) (List.map unlikeL f) = rowsL f from rfl]
    cases (tidyR (rowsL f)).any (fun o => cov o (unlikeL c)) <;> simp
/-- the same by places -/
def goodI (rows : List (List Int)) (k : Nat) : Bool := (List.range rows.length).all fun j => !(cov (rows.getD j []) (rows.getD k []) && (decide ((rows.getD j []).length < (rows.getD k []).length) || decide (j < k)))
def dueI (rows : List (List Int)) : List (List Int) := ((List.range rows.length).filter (goodI rows)).map fun k => rows.getD k []
theorem getD_l {α : Type} {d : α} (xs : List α) (y : α) {k : Nat} (h : k < xs.length) : (xs ++ [y]).getD k d = xs.getD k d := by
  rw [List.getD_eq_getElem?_getD, List.getD_eq_getElem?_getD, List.getElem?_append_left h]
theorem getD_r {α : Type} {d : α} (xs : List α) (y : α) : (xs ++ [y]).getD xs.length d = y := by
  rw [List.getD_eq_getElem?_getD, List.getElem?_append_right (Nat.le_refl _), Nat.sub_self]; rfl
theorem map_getD {α : Type} {d : α} (xs : List α) : (List.range xs.length).map (fun k => xs.getD k d) = xs := by
  refine List.ext_getElem (by simp) fun i h1 h2 => ?_
  rw [List.getElem_map, List.getElem_range, List.getD_eq_getElem?_getD, List.getElem?_eq_getElem h2]
  rfl
theorem dueI_R (rows : List (List Int)) : dueI rows = dueR rows := by
  refine snoc_ind (P := fun rows => dueI rows = dueR rows) rfl (fun pre r ih => ?_) rows
  rw [dueR_snoc, ← ih]
  unfold dueI
  rw [List.length_append, show [r].length = 1 from rfl, List.range_succ, List.filter_append, List.map_append]
  congr 1
  · rw [List.filter_map, List.filter_filter]
    have e : ∀ k ∈ List.range pre.length, goodI (pre ++ [r]) k = (((fun o => !(cov r o && decide (r.length < o.length))) ∘ fun k => pre.getD k []) k && goodI pre k) := by
      intro k hk
      have hk := List.mem_range.mp hk
      unfold goodI
      rw [List.length_append, show [r].length = 1 from rfl, List.range_succ, List.all_append]
      rw [Bool.and_comm]
      congr 1
      · simp only [List.all_cons, List.all_nil, Bool.and_true, getD_r, getD_l pre r hk, Function.comp_def]
        rw [decide_eq_false (show ¬ pre.length < k by omega), Bool.or_false]
      · rw [Bool.eq_iff_iff, List.all_eq_true, List.all_eq_true]
        constructor
        · intro h j hj
          have := h j hj
          rw [getD_l pre r (List.mem_range.mp hj), getD_l pre r hk] at this
          exact this
        · intro h j hj
          rw [getD_l pre r (List.mem_range.mp hj), getD_l pre r hk]
          exact h j hj
    rw [List.filter_congr e]
    refine List.map_congr_left fun k hk => ?_
    exact getD_l pre r (List.mem_range.mp (List.mem_filter.mp hk).1)
  · have e : goodI (pre ++ [r]) pre.length = !(pre.any fun x => cov x r) := by
      unfold goodI
      rw [List.length_append, show [r].length = 1 from rfl, List.range_succ, List.all_append, getD_r]
      simp only [List.all_cons, List.all_nil, Bool.and_true, getD_r]
      rw [decide_eq_false (Nat.lt_irrefl _), decide_eq_false (Nat.lt_irrefl _), Bool.or_false, Bool.and_false, Bool.not_false, Bool.and_true, Bool.eq_iff_iff, List.all_eq_true]
      rw [Bool.not_eq_true', ← Bool.not_eq_true, List.any_eq_true]
      constructor
      · rintro h ⟨x, hx, ex⟩
        obtain ⟨j, hj, rfl⟩ := List.getElem_of_mem hx
        have := h j (List.mem_range.mpr hj)
        rw [getD_l pre r hj, List.getD_eq_getElem?_getD, List.getElem?_eq_getElem hj, decide_eq_true hj, Bool.or_true, Bool.and_true] at this
        simp only [Option.getD_some] at this
        rw [ex] at this
        cases this
      · intro h j hj
        have hj := List.mem_range.mp hj
        rw [getD_l pre r hj, List.getD_eq_getElem?_getD, List.getElem?_eq_getElem hj, decide_eq_true hj, Bool.or_true, Bool.and_true, Option.getD_some]
        cases c : cov pre[j] r with
        | false => rfl
        | true => exact absurd ⟨pre[j], List.getElem_mem _, c⟩ h
    simp only [List.filter_cons, List.filter_nil, e]
    cases pre.any (fun x => cov x r) with
    | true => rfl
    | false => simp [getD_r]
theorem models_ext {v : Nat} {f g : List (List Int)} (hf : ∀ c ∈ f, InR v c) (hg : ∀ c ∈ g, InR v c) (h : ∀ σ, ft σ f = ft σ g) : models v f = models v g := by
  unfold models
  refine List.filter_congr fun m hm => ?_
  obtain ⟨n, _, rfl⟩ := List.mem_map.mp hm
  have e : ∀ (f : List (List Int)), (∀ c ∈ f, InR v c) → (f.all fun c => c.any fun l => decide (l ∈ asg v (ofS v n))) = ft (ofS v n) f := by
    intro f hf
    unfold ft
    rw [Bool.eq_iff_iff, List.all_eq_true, List.all_eq_true]
    constructor
    · intro q d hd; rw [← any_asg (hf d hd)]; exact q d hd
    · intro q d hd; rw [any_asg (hf d hd)]; exact q d hd
  rw [e f hf, e g hg, h]
end DL
/-! Reducing: no program in sight. -/
namespace DL
open PySem L2

theorem tidyL_snoc (f : List (List Int)) (c : List Int) : tidyL (f ++ [c]) = if (!bothL (unlikeL c) && !((tidyL f).any fun o => cov o (unlikeL c))) = true then (tidyL f).filter (fun o => !cov (unlikeL c) o) ++ [unlikeL c] else tidyL f := by
  unfold tidyL; rw [List.foldl_append]; rfl
theorem tidyL_sub (f : List (List Int)) : (tidyL f).length ≤ f.length ∧ ∀ o ∈ tidyL f, ∃ c ∈ f, o = unlikeL c := by
  refine snoc_ind (P := fun f => (tidyL f).length ≤ f.length ∧ ∀ o ∈ tidyL f, ∃ c ∈ f, o = unlikeL c) ⟨Nat.le_refl _, fun o h => by cases h⟩ (fun f c ih => ?_) f
  rw [tidyL_snoc]
  split
  · constructor
    · have := List.length_filter_le (fun o => !cov (unlikeL c) o) (tidyL f)
      simp; omega
    · intro o ho
      rcases List.mem_append.mp ho with ho | ho
      · obtain ⟨d, hd, e⟩ := ih.2 o (List.mem_filter.mp ho).1
        exact ⟨d, List.mem_append.mpr (.inl hd), e⟩
      · rw [List.mem_singleton] at ho
        exact ⟨c, by simp, ho⟩
  · constructor
    · simp; omega
    · intro o ho
      obtain ⟨d, hd, e⟩ := ih.2 o ho
      exact ⟨d, List.mem_append.mpr (.inl hd), e⟩
/-- the clauses, a literal being true -/
def whenL (f : List (List Int)) (l : Int) : List (List Int) := (f.filter fun c => !decide (l ∈ c)).map fun c => c.filter fun x => !decide (x = -l)
/-- the literal of the first clause of one; else nought -/
def singleL : List (List Int) → Int
  | [] => 0
  | [l] :: _ => l
  | _ :: f => singleL f
def occ (f : List (List Int)) : List Int := f.flatten
/-- of the literals whose opposites are not there that of the least variable -/
def aloneL (f : List (List Int)) : List Int := (unlikeL (occ f)).filter fun l => !decide (-l ∈ unlikeL (occ f))
def loneL (f : List (List Int)) : Int := match minA (aloneL f) with
  | some m => m
  | none => 0
def nextL (f : List (List Int)) : Int := if singleL f ≠ 0 then singleL f else loneL f
/-- so far up to variable v: the first that is there without its opposite -/
def firstL (s : List Int) : List Nat → Int
  | [] => 0
  | k :: ks => if (k : Int) ∈ s ∧ -(k : Int) ∉ s then k else if -(k : Int) ∈ s ∧ (k : Int) ∉ s then -(k : Int) else firstL s ks
theorem mem_occ {f : List (List Int)} {l : Int} : l ∈ occ f ↔ ∃ c ∈ f, l ∈ c := by
  unfold occ
  rw [List.mem_flatten]
theorem mem_alone {f : List (List Int)} {l : Int} : l ∈ aloneL f ↔ l ∈ occ f ∧ -l ∉ occ f := by
  unfold aloneL
  rw [List.mem_filter, mem_unlikeL, Bool.not_eq_true', decide_eq_false_iff_not, mem_unlikeL]
theorem alone_dist (f : List (List Int)) : distA (aloneL f) = true := by
  have gen : ∀ xs : List Int, xs.Nodup → (∀ l ∈ xs, -l ∉ xs) → distA xs = true := by
    intro xs
    induction xs with
    | nil => intro _ _; rfl
    | cons x xs ih =>
      intro hn h
      rw [List.nodup_cons] at hn
      have i1 := ih hn.2 fun l hl hm => h l (List.mem_cons_of_mem _ hl) (List.mem_cons_of_mem _ hm)
      show ((xs.all fun y => decide (x.natAbs ≠ y.natAbs)) && distA xs) = true
      rw [i1, Bool.and_true, List.all_eq_true]
      intro y hy
      refine decide_eq_true fun e => ?_
      have : x = y ∨ y = -x := by omega
      rcases this with e | e
      · subst e; exact hn.1 hy
      · subst e; exact h x (List.mem_cons_self ..) (List.mem_cons_of_mem _ hy)
  refine gen _ (List.Pairwise.filter _ (nodup_unlikeL _)) fun l hl hm => ?_
  exact (mem_alone.mp hl).2 (mem_alone.mp hm).1
theorem firstL_spec (s : List Int) : ∀ (n k0 : Nat), (firstL s ((List.range n).map (· + k0)) = 0 ∧ ∀ k, k0 ≤ k → k < k0 + n → ¬((k : Int) ∈ s ∧ -(k : Int) ∉ s) ∧ ¬(-(k : Int) ∈ s ∧ (k : Int) ∉ s)) ∨
    (∃ k, k0 ≤ k ∧ k < k0 + n ∧ (firstL s ((List.range n).map (· + k0))).natAbs = k ∧ firstL s ((List.range n).map (· + k0)) ∈ s ∧ -firstL s ((List.range n).map (· + k0)) ∉ s ∧ ∀ j, k0 ≤ j → j < k → ¬((j : Int) ∈ s ∧ -(j : Int) ∉ s) ∧ ¬(-(j : Int) ∈ s ∧ (j : Int) ∉ s)) := by
  intro n
  induction n with
  | zero => intro k0; exact .inl ⟨rfl, fun k h1 h2 => by omega⟩
  | succ n ih =>
    intro k0
    have e : (List.range (n + 1)).map (· + k0) = k0 :: (List.range n).map (· + (k0 + 1)) := by
      rw [List.range_succ_eq_map, List.map_cons, List.map_map]
      congr 1
      · simp
      · refine List.map_congr_left fun x _ => ?_
        simp; omega
    rw [e]
    by_cases c1 : (k0 : Int) ∈ s ∧ -(k0 : Int) ∉ s
    · refine .inr ⟨k0, Nat.le_refl _, by omega, ?_⟩
      rw [show firstL s (k0 :: (List.range n).map (· + (k0 + 1))) = (k0 : Int) from if_pos c1]
      exact ⟨by omega, c1.1, c1.2, fun j h1 h2 => by omega⟩
    · by_cases c2 : -(k0 : Int) ∈ s ∧ (k0 : Int) ∉ s
      · refine .inr ⟨k0, Nat.le_refl _, by omega, ?_⟩
        rw [show firstL s (k0 :: (List.range n).map (· + (k0 + 1))) = -(k0 : Int) from by unfold firstL; rw [if_neg c1, if_pos c2]]
        exact ⟨by omega, c2.1, by rw [Int.neg_neg]; exact c2.2, fun j h1 h2 => by omega⟩
      · rw [show firstL s (k0 :: (List.range n).map (· + (k0 + 1))) = firstL s ((List.range n).map (· + (k0 + 1))) from by conv => lhs; unfold firstL; rw [if_neg c1, if_neg c2]]
        rcases ih (k0 + 1) with ⟨h1, h2⟩ | ⟨k, h1, h2, h3, h4, h5, h6⟩
        · refine .inl ⟨h1, fun k a b => ?_⟩
          by_cases z : k = k0
          · subst z; exact ⟨c1, c2⟩
          · exact h2 k (by omega) (by omega)
        · refine .inr ⟨k, by omega, by omega, h3, h4, h5, fun j a b => ?_⟩
          by_cases z : j = k0
          · subst z; exact ⟨c1, c2⟩
          · exact h6 j (by omega) b
theorem minA_none {xs : List Int} (h : minA xs = none) : xs = [] := by
  cases xs with
  | nil => rfl
  | cons x xs =>
    unfold minA at h
    cases e : minA xs with
    | none => rw [e] at h; cases h
    | some w => rw [e] at h; cases h
theorem lone_first {v : Nat} {f : List (List Int)} (hf : ∀ c ∈ f, InR v c) : loneL f = firstL (occ f) ((List.range v).map (· + 1)) := by
  have hin : ∀ l ∈ occ f, litOk v l := fun l hl => by
    obtain ⟨c, hc, h⟩ := mem_occ.mp hl
    exact hf c hc l h
  have two : ∀ l : Int, l ≠ 0 → l ∈ occ f → -l ∉ occ f → ((l.natAbs : Int) ∈ occ f ∧ -(l.natAbs : Int) ∉ occ f) ∨ (-(l.natAbs : Int) ∈ occ f ∧ (l.natAbs : Int) ∉ occ f) := by
    intro l hz h1 h2
    by_cases p : 0 < l
    · have e : (l.natAbs : Int) = l := by omega
      rw [e]; exact .inl ⟨h1, h2⟩
    · have e : (l.natAbs : Int) = -l := by omega
      rw [e, Int.neg_neg]; exact .inr ⟨h1, h2⟩
  unfold loneL
  rcases firstL_spec (occ f) v 1 with ⟨h1, h2⟩ | ⟨k, h1, h2, h3, h4, h5, h6⟩
  · cases e : minA (aloneL f) with
    | none => exact h1.symm
    | some m =>
      obtain ⟨hm, _⟩ := minA_spec e
      obtain ⟨a, b⟩ := mem_alone.mp hm
      have := hin m a
      obtain ⟨g1, g2⟩ := h2 m.natAbs this.1 (by have := this.2; omega)
      rcases two m (by have := this.1; omega) a b with q | q
      · exact absurd q g1
      · exact absurd q g2
  · generalize firstL (occ f) ((List.range v).map (· + 1)) = x at *
    have hx : x ∈ aloneL f := mem_alone.mpr ⟨h4, h5⟩
    cases e : minA (aloneL f) with
    | none => rw [minA_none e] at hx; cases hx
    | some m =>
      obtain ⟨hm, hmin⟩ := minA_spec e
      obtain ⟨a, b⟩ := mem_alone.mp hm
      have hmk := hmin x hx
      have := hin m a
      show m = x
      refine distA_eq (alone_dist f) hm hx ?_
      by_cases z : m.natAbs = k
      · omega
      · obtain ⟨g1, g2⟩ := h6 m.natAbs this.1 (by omega)
        rcases two m (by have := this.1; omega) a b with q | q
        · exact absurd q g1
        · exact absurd q g2
theorem single_in : ∀ {f : List (List Int)}, singleL f ≠ 0 → ∃ c ∈ f, singleL f ∈ c
  | [], h => absurd rfl h
  | [] :: f, h => by
    have h' : singleL f ≠ 0 := h
    obtain ⟨c, hc, e⟩ := single_in h'
    exact ⟨c, List.mem_cons_of_mem _ hc, e⟩
  | [l] :: f, _ => ⟨[l], List.mem_cons_self .., List.mem_cons_self ..⟩
  | (a :: b :: c) :: f, h => by
    have h' : singleL f ≠ 0 := h
    obtain ⟨d, hd, e⟩ := single_in h'
    exact ⟨d, List.mem_cons_of_mem _ hd, e⟩
theorem next_in {f : List (List Int)} (h : nextL f ≠ 0) : nextL f ∈ occ f := by
  unfold nextL at h ⊢
  by_cases c : singleL f ≠ 0
  · rw [if_pos c]
    obtain ⟨d, hd, e⟩ := single_in c
    exact mem_occ.mpr ⟨d, hd, e⟩
  · rw [if_neg c] at h ⊢
    unfold loneL at h ⊢
    cases e : minA (aloneL f) with
    | none => rw [e] at h; exact absurd rfl h
    | some m => exact (mem_alone.mp (minA_spec e).1).1
/-! ### the rounds -/
def redL : Nat → List (List Int) → List Int → Option (List (List Int) × List Int)
  | 0, _, _ => none
  | n + 1, f, ls => if nextL f ≠ 0 ∧ [] ∉ f then redL n (tidyL (whenL f (nextL f))) (ls ++ [nextL f]) else some (f, ls)
def okF (v : Nat) (f : List (List Int)) : Prop := f.length ≤ 10 ∧ ∀ c ∈ f, InR v c ∧ c.length ≤ 7
theorem occ_tidy {f : List (List Int)} {l : Int} (h : l ∈ occ (tidyL f)) : l ∈ occ f := by
  obtain ⟨c, hc, e⟩ := mem_occ.mp h
  obtain ⟨d, hd, rfl⟩ := (tidyL_sub f).2 c hc
  exact mem_occ.mpr ⟨d, hd, (mem_unlikeL d l).mp e⟩
theorem occ_when {f : List (List Int)} {l x : Int} (h : x ∈ occ (whenL f l)) : x ∈ occ f ∧ x ≠ l ∧ x ≠ -l := by
  obtain ⟨c, hc, e⟩ := mem_occ.mp h
  obtain ⟨d, hd, rfl⟩ := List.mem_map.mp hc
  obtain ⟨hd, hl⟩ := List.mem_filter.mp hd
  obtain ⟨e1, e2⟩ := List.mem_filter.mp e
  refine ⟨mem_occ.mpr ⟨d, hd, e1⟩, fun z => ?_, fun z => ?_⟩
  · subst z
    rw [decide_eq_true e1] at hl; cases hl
  · subst z
    rw [decide_eq_true rfl] at e2; cases e2
theorem okF_tidy {v : Nat} {f : List (List Int)} (h : okF v f) : okF v (tidyL f) := by
  obtain ⟨h1, h2⟩ := tidyL_sub f
  refine ⟨Nat.le_trans h1 h.1, fun c hc => ?_⟩
  obtain ⟨d, hd, rfl⟩ := h2 c hc
  obtain ⟨a, b⟩ := h.2 d hd
  exact ⟨InR_unlikeL a, Nat.le_trans (len_unlikeL d) b⟩
theorem okF_when {v : Nat} {f : List (List Int)} (l : Int) (h : okF v f) : okF v (whenL f l) := by
  refine ⟨?_, fun c hc => ?_⟩
  · unfold whenL
    rw [List.length_map]
    exact Nat.le_trans (List.length_filter_le _ _) h.1
  · obtain ⟨d, hd, rfl⟩ := List.mem_map.mp hc
    obtain ⟨a, b⟩ := h.2 d (List.mem_filter.mp hd).1
    exact ⟨fun x hx => a x (List.mem_filter.mp hx).1, Nat.le_trans (List.length_filter_le _ _) b⟩
theorem len_sub' {α : Type} [BEq α] [LawfulBEq α] : ∀ {a b : List α}, a.Nodup → (∀ l ∈ a, l ∈ b) → a.length ≤ b.length
  | [], _, _, _ => Nat.zero_le _
  | x :: a, b, hn, h => by
    rw [List.nodup_cons] at hn
    have hx := h x (List.mem_cons_self ..)
    have := len_sub' (a := a) (b := b.erase x) hn.2 fun l hl => (List.mem_erase_of_ne (fun z : l = x => hn.1 (z ▸ hl))).mpr (h l (List.mem_cons_of_mem _ hl))
    rw [List.length_erase_of_mem hx] at this
    have := List.length_pos_of_mem hx
    simp; omega
/-- the variables that are there -/
def varsL (v : Nat) (f : List (List Int)) : List Nat := (List.range v).filter fun k => decide (((k : Int) + 1) ∈ occ f ∨ -((k : Int) + 1) ∈ occ f)
theorem vars_less {v : Nat} {f : List (List Int)} (hf : ∀ c ∈ f, InR v c) (h : nextL f ≠ 0) : (varsL v (tidyL (whenL f (nextL f)))).length < (varsL v f).length := by
  have hn := next_in h
  have hok : litOk v (nextL f) := by
    obtain ⟨c, hc, e⟩ := mem_occ.mp hn
    exact hf c hc _ e
  generalize nextL f = l at *
  have hsub : ∀ k, k ∈ varsL v (tidyL (whenL f l)) → k ∈ (varsL v f).erase (l.natAbs - 1) := by
    intro k hk
    unfold varsL at hk
    obtain ⟨hk, e⟩ := List.mem_filter.mp hk
    have e := of_decide_eq_true e
    have key : ((((k : Int) + 1) ∈ occ f ∨ -((k : Int) + 1) ∈ occ f)) ∧ k ≠ l.natAbs - 1 := by
      rcases e with e | e
      · obtain ⟨a, b, c⟩ := occ_when (occ_tidy e)
        exact ⟨.inl a, by have := hok.1; omega⟩
      · obtain ⟨a, b, c⟩ := occ_when (occ_tidy e)
        exact ⟨.inr a, by have := hok.1; omega⟩
    refine (List.mem_erase_of_ne key.2).mpr ?_
    unfold varsL
    exact List.mem_filter.mpr ⟨hk, decide_eq_true key.1⟩
  have hnd : (varsL v (tidyL (whenL f l))).Nodup := List.Pairwise.filter _ List.nodup_range
  have hlen := len_sub' hnd hsub
  have hmem : l.natAbs - 1 ∈ varsL v f := by
    unfold varsL
    refine List.mem_filter.mpr ⟨List.mem_range.mpr (by have := hok.1; have := hok.2; omega), decide_eq_true ?_⟩
    by_cases p : 0 < l
    · exact .inl (by rw [show (((l.natAbs - 1 : Nat) : Int) + 1) = l by have := hok.1; omega]; exact hn)
    · exact .inr (by rw [show -(((l.natAbs - 1 : Nat) : Int) + 1) = l by have := hok.1; omega]; exact hn)
  rw [List.length_erase_of_mem hmem] at hlen
  have := List.length_pos_of_mem hmem
  omega
theorem red_ends {v : Nat} : ∀ (n : Nat) (f : List (List Int)) (ls : List Int), okF v f → (varsL v f).length < n → ∃ r, redL n f ls = some r ∧ okF v r.1 ∧ r.2.length ≤ ls.length + (varsL v f).length
  | 0, _, _, _, h => by omega
  | n + 1, f, ls, ok, h => by
    unfold redL
    by_cases c : nextL f ≠ 0 ∧ [] ∉ f
    · rw [if_pos c]
      have hl := vars_less (fun d hd => (ok.2 d hd).1) c.1
      obtain ⟨r, h1, h2, h3⟩ := red_ends n (tidyL (whenL f (nextL f))) (ls ++ [nextL f]) (okF_tidy (okF_when _ ok)) (by omega)
      exact ⟨r, h1, h2, by simp at h3; omega⟩
    · rw [if_neg c]
      exact ⟨_, rfl, ok, by simp⟩
end DL
/-! Lifting: no program in sight. -/
namespace DL
open PySem L2
/-- the literals of ls are true, else as τ says -/
def over (τ : Asg) (ls : List Int) : Asg := fun k => if (k : Int) ∈ ls then true else if -(k : Int) ∈ ls then false else τ k
def setL (τ : Asg) (l : Int) : Asg := fun k => if k = l.natAbs then decide (0 < l) else τ k
theorem lt_setL {τ : Asg} {l x : Int} (hx : x ≠ 0) : lt (setL τ l) x = if x = l then true else if x = -l then false else lt τ x := by
  unfold lt setL
  by_cases p : 0 < x
  · rw [if_pos p]
    by_cases e : x.natAbs = l.natAbs
    · rw [if_pos e]
      by_cases q : x = l
      · rw [if_pos q]; exact decide_eq_true (by omega)
      · rw [if_neg q, if_pos (by omega)]; exact decide_eq_false (by omega)
    · rw [if_neg e, if_neg (by omega), if_neg (by omega), if_pos p]
  · rw [if_neg p]
    by_cases e : x.natAbs = l.natAbs
    · rw [if_pos e]
      by_cases q : x = l
      · rw [if_pos q, decide_eq_false (by omega)]; rfl
      · rw [if_neg q, if_pos (by omega), decide_eq_true (by omega)]; rfl
    · rw [if_neg e, if_neg (by omega), if_neg (by omega), if_neg p]
theorem ft_tidy {v : Nat} (σ : Asg) {f : List (List Int)} (hf : ∀ c ∈ f, InR v c) : ft σ (tidyL f) = ft σ f := by
  rw [tidyL_rows, tidyR_due _ (rowsL_nodup f), ft_dueR σ _ (rowsL_nodup f), ft_rowsL σ hf]
theorem ct_agree {σ τ : Asg} {c : List Int} (h : ∀ l ∈ c, lt σ l = lt τ l) : ct σ c = ct τ c := by
  unfold ct
  rw [Bool.eq_iff_iff, List.any_eq_true, List.any_eq_true]
  constructor
  · rintro ⟨l, hl, q⟩; exact ⟨l, hl, by rw [← h l hl]; exact q⟩
  · rintro ⟨l, hl, q⟩; exact ⟨l, hl, by rw [h l hl]; exact q⟩
theorem ft_agree {σ τ : Asg} {f : List (List Int)} (h : ∀ l ∈ occ f, lt σ l = lt τ l) : ft σ f = ft τ f := by
  unfold ft
  rw [Bool.eq_iff_iff, List.all_eq_true, List.all_eq_true]
  have e : ∀ c ∈ f, ct σ c = ct τ c := fun c hc => ct_agree fun l hl => h l (mem_occ.mpr ⟨c, hc, hl⟩)
  constructor
  · intro q c hc; rw [← e c hc]; exact q c hc
  · intro q c hc; rw [e c hc]; exact q c hc
/-- a round back: the literal true, the formula is -/
theorem ft_back {v : Nat} {τ : Asg} {f : List (List Int)} {l : Int} (hf : ∀ c ∈ f, InR v c) (h : ft τ (whenL f l) = true) : ft (setL τ l) f = true := by
  unfold ft at h ⊢
  rw [List.all_eq_true] at h ⊢
  intro c hc
  by_cases m : l ∈ c
  · unfold ct
    rw [List.any_eq_true]
    exact ⟨l, m, by rw [lt_setL (by have := (hf c hc l m).1; omega), if_pos rfl]⟩
  · have := h (c.filter fun x => !decide (x = -l)) (List.mem_map.mpr ⟨c, List.mem_filter.mpr ⟨hc, by rw [decide_eq_false m]; rfl⟩, rfl⟩)
    unfold ct at this ⊢
    rw [List.any_eq_true] at this ⊢
    obtain ⟨x, hx, q⟩ := this
    obtain ⟨hx, hne⟩ := List.mem_filter.mp hx
    refine ⟨x, hx, ?_⟩
    rw [lt_setL (by have := (hf c hc x hx).1; omega), if_neg (fun z : x = l => m (z ▸ hx)), if_neg (by simpa using hne)]
    exact q
/-- a round on: the formula true, what is left is -/
theorem ft_on {v : Nat} {σ : Asg} {f : List (List Int)} (hf : ∀ c ∈ f, InR v c) (hn : nextL f ≠ 0) (h : ft σ f = true) : ft σ (whenL f (nextL f)) = true := by
  unfold ft at h ⊢
  rw [List.all_eq_true] at h ⊢
  intro c hc
  obtain ⟨d, hd, rfl⟩ := List.mem_map.mp hc
  obtain ⟨hd, hl⟩ := List.mem_filter.mp hd
  have hct := h d hd
  -- the literal true, or its opposite not there
  have key : lt σ (nextL f) = true ∨ -(nextL f) ∉ d := by
    unfold nextL at hn ⊢
    by_cases c1 : singleL f ≠ 0
    · rw [if_pos c1]
      left
      have : [singleL f] ∈ f := by
        have gen : ∀ f : List (List Int), singleL f ≠ 0 → [singleL f] ∈ f := by
          intro f
          induction f with
          | nil => intro h; exact absurd rfl h
          | cons c f ih =>
            intro h
            match c with
            | [] => exact List.mem_cons_of_mem _ (ih h)
            | [l] => exact List.mem_cons_self ..
            | a :: b :: c => exact List.mem_cons_of_mem _ (ih h)
        exact gen f c1
      have := h _ this
      unfold ct at this
      simpa using this
    · rw [if_neg c1] at hn ⊢
      right
      unfold loneL at hn ⊢
      cases e : minA (aloneL f) with
      | none => rw [e] at hn; exact absurd rfl hn
      | some m =>
        intro hm
        exact (mem_alone.mp (minA_spec e).1).2 (mem_occ.mpr ⟨d, hd, hm⟩)
  unfold ct at hct ⊢
  rw [List.any_eq_true] at hct ⊢
  obtain ⟨x, hx, q⟩ := hct
  refine ⟨x, List.mem_filter.mpr ⟨hx, ?_⟩, q⟩
  rw [Bool.not_eq_true', decide_eq_false_iff_not]
  intro z
  subst z
  rcases key with k | k
  · rw [lt_neg hn, k] at q; cases q
  · exact k hx
theorem over_cons {τ : Asg} {l : Int} {ls : List Int} (hz : l ≠ 0) (h1 : l ∉ ls) (h2 : -l ∉ ls) (k : Nat) (hk : 1 ≤ k) : over τ (l :: ls) k = setL (over τ ls) l k := by
  unfold setL
  by_cases e : k = l.natAbs
  · rw [if_pos e]
    unfold over
    by_cases p : 0 < l
    · rw [if_pos (by rw [show (k : Int) = l by omega]; exact List.mem_cons_self ..), decide_eq_true p]
    · have e2 : -(k : Int) = l := by omega
      have n : (k : Int) ∉ l :: ls := by
        rw [show (k : Int) = -l by omega]
        intro h
        rcases List.mem_cons.mp h with h | h
        · omega
        · exact h2 h
      rw [if_neg n, if_pos (by rw [e2]; exact List.mem_cons_self ..), decide_eq_false p]
  · rw [if_neg e]
    unfold over
    have a : (k : Int) ∈ l :: ls ↔ (k : Int) ∈ ls := by
      rw [List.mem_cons]; exact ⟨fun h => h.resolve_left (by omega), .inr⟩
    have b : -(k : Int) ∈ l :: ls ↔ -(k : Int) ∈ ls := by
      rw [List.mem_cons]; exact ⟨fun h => h.resolve_left (by omega), .inr⟩
    simp only [a, b]
/-- what the rounds give -/
theorem red_spec {v : Nat} : ∀ (n : Nat) (f : List (List Int)) (ls : List Int) r, okF v f → redL n f ls = some r →
    ∃ ks, r.2 = ls ++ ks ∧ (∀ l ∈ ks, l ∈ occ f ∧ litOk v l) ∧ (∀ l ∈ ks, -l ∉ ks) ∧ (∀ τ, ft τ r.1 = true → ft (over τ ks) f = true) ∧ (∀ σ, ft σ f = true → ft σ r.1 = true)
  | 0, _, _, _, _, h => by cases h
  | n + 1, f, ls, r, ok, h => by
    have hIn : ∀ c ∈ f, InR v c := fun c hc => (ok.2 c hc).1
    unfold redL at h
    by_cases c : nextL f ≠ 0 ∧ [] ∉ f
    · rw [if_pos c] at h
      have okw := okF_when (nextL f) ok
      have hw : ∀ c ∈ whenL f (nextL f), InR v c := fun c hc => (okw.2 c hc).1
      obtain ⟨ks, e1, e2, e3, e4, e5⟩ := red_spec n _ _ r (okF_tidy okw) h
      have hn := next_in c.1
      have hok : litOk v (nextL f) := by
        obtain ⟨d, hd, e⟩ := mem_occ.mp hn
        exact hIn d hd _ e
      have away : ∀ l ∈ ks, l ≠ nextL f ∧ l ≠ -(nextL f) := fun l hl => by
        obtain ⟨_, b, d⟩ := occ_when (occ_tidy (e2 l hl).1)
        exact ⟨b, d⟩
      have n1 : nextL f ∉ ks := fun h => (away _ h).1 rfl
      have n2 : -(nextL f) ∉ ks := fun h => (away _ h).2 rfl
      refine ⟨nextL f :: ks, by rw [e1]; simp, fun l hl => ?_, fun l hl => ?_, fun τ hτ => ?_, fun σ hσ => ?_⟩
      · rcases List.mem_cons.mp hl with rfl | hl
        · exact ⟨hn, hok⟩
        · exact ⟨(occ_when (occ_tidy (e2 l hl).1)).1, (e2 l hl).2⟩
      · have hz := c.1
        rcases List.mem_cons.mp hl with rfl | hl
        · intro h
          rcases List.mem_cons.mp h with h | h
          · omega
          · exact n2 h
        · intro h
          rcases List.mem_cons.mp h with h | h
          · exact (away l hl).2 (by omega)
          · exact e3 l hl h
      · have := e4 τ hτ
        rw [ft_tidy _ hw] at this
        have b := ft_back hIn this
        rw [ft_ext (v := v) (fun k h1 h2 => over_cons c.1 n1 n2 k h1) hIn]
        exact b
      · refine e5 σ ?_
        rw [ft_tidy _ hw]
        exact ft_on hIn c.1 hσ
    · rw [if_neg c] at h
      cases h
      refine ⟨[], by simp, fun l hl => (by cases hl), fun l hl => (by cases hl), fun τ hτ => ?_, fun σ hσ => hσ⟩
      have : over τ [] = τ := by funext k; unfold over; simp
      rw [this]; exact hτ
theorem lt_over {τ : Asg} {ks : List Int} (h3 : ∀ l ∈ ks, -l ∉ ks) {l : Int} (hz : l ≠ 0) (hl : l ∈ ks) : lt (over τ ks) l = true := by
  unfold lt over
  by_cases p : 0 < l
  · rw [if_pos p, if_pos (by rw [show ((l.natAbs : Nat) : Int) = l by omega]; exact hl)]
  · rw [if_neg p, if_neg (by rw [show ((l.natAbs : Nat) : Int) = -l by omega]; exact h3 l hl), if_pos (by rw [show -((l.natAbs : Nat) : Int) = l by omega]; exact hl)]
    rfl
/-! ### models as lists -/
theorem mem_models {v : Nat} {f : List (List Int)} (hf : ∀ c ∈ f, InR v c) (m : List Int) : m ∈ models v f ↔ ∃ σ, m = asg v σ ∧ ft σ f = true := by
  have e : ∀ σ, (f.all fun c => c.any fun l => decide (l ∈ asg v σ)) = ft σ f := by
    intro σ
    unfold ft
    rw [Bool.eq_iff_iff, List.all_eq_true, List.all_eq_true]
    constructor
    · intro q d hd; rw [← any_asg (hf d hd)]; exact q d hd
    · intro q d hd; rw [any_asg (hf d hd)]; exact q d hd
  unfold models
  rw [List.mem_filter, List.mem_map]
  constructor
  · rintro ⟨⟨n, _, rfl⟩, h⟩
    exact ⟨_, rfl, by rw [← e]; exact h⟩
  · rintro ⟨σ, rfl, h⟩
    obtain ⟨n, hn, hk⟩ := ofS_ex σ v
    exact ⟨⟨n, List.mem_range.mpr hn, asg_ext hk⟩, by rw [e]; exact h⟩
end DL
/-! More of data: clauses, the dict of what is seen. -/
namespace DL
open PySem L2
theorem eqv_cD (c d : List Int) : PyData.eqv (toPy (cD c)) (toPy (cD d)) = decide (c = d) := by
  show PyData.eqv (.tuple (toPyA (c.map D.int))) (.tuple (toPyA (d.map D.int))) = _
  simp only [PyData.eqv, eqv_ints c d]
theorem in_cls (c : List Int) (f : List (List Int)) : inD (cD c) (fD f) = .ok (.bl (decide (c ∈ f))) := by
  show inSeq (cD c) (f.map cD) true = _
  unfold inSeq
  rw [if_neg (by show ¬ ((false && _) = true); simp)]
  have ok2 : okPy (.lst (f.map cD)) = true := ok_fD f
  rw [if_pos (by rw [ok_cD, ok2]; rfl)]
  congr 2
  have e : ∀ f : List (List Int), ((toPyA (f.map cD)).any fun z => PyData.eqv z (toPy (cD c))) = f.any fun d => decide (d = c) := by
    intro f
    induction f with
    | nil => rfl
    | cons d f ih =>
      rw [List.map_cons]
      show (PyData.eqv (toPy (cD d)) (toPy (cD c)) || (toPyA (f.map cD)).any _) = _
      rw [ih, eqv_cD, List.any_cons]
  rw [e, Bool.eq_iff_iff, List.any_eq_true, decide_eq_true_iff]
  constructor
  · rintro ⟨d, hd, h⟩; have := of_decide_eq_true h; subst this; exact hd
  · intro h; exact ⟨c, h, decide_eq_true rfl⟩
theorem lenC (c : List Int) : lenD (cD c) = .ok (.int c.length) := by unfold cD; rw [s_lenT, List.length_map]
theorem lenF (c : List (List Int)) : lenD (fD c) = .ok (.int c.length) := by unfold fD; rw [s_lenL, List.length_map]
theorem itemsC (c : List Int) : itemsD (cD c) = .ok (c.map D.int) := rfl
theorem itemsF (c : List (List Int)) : itemsD (fD c) = .ok (c.map cD) := rfl
theorem ix0 {c : List Int} (h : c.length = 1) : ixD (cD c) (.int 0) = .ok (.int (c.headD 0)) := by
  match c, h with
  | [l], _ => rfl
/-! the dict of what is seen -/
def seenD (ls : List Int) : List (Int × D) := (unlikeL ls).map fun l => (l, .bl true)
theorem seenD_snoc (ls : List Int) (l : Int) : seenD (ls ++ [l]) = putD (seenD ls) l (.bl true) := by
  unfold seenD
  rw [unlikeL_snoc]
  have hany : ∀ xs : List Int, ((xs.map fun l => ((l, D.bl true) : Int × D)).any fun e => decide (e.1 = l)) = decide (l ∈ xs) := by
    intro xs
    rw [List.any_map, Bool.eq_iff_iff, List.any_eq_true, decide_eq_true_iff]
    constructor
    · rintro ⟨x, hx, e⟩
      have : x = l := of_decide_eq_true e
      subst this; exact hx
    · intro h; exact ⟨l, h, decide_eq_true rfl⟩
  unfold putD
  rw [hany]
  by_cases h : l ∈ unlikeL ls
  · rw [if_pos h, if_pos (decide_eq_true h), List.map_map]
    refine List.map_congr_left fun x _ => ?_
    simp only [Function.comp_def]
    split <;> rfl
  · rw [if_neg h, if_neg (by simpa using h), List.map_append]
    rfl
theorem seen_in (ls : List Int) (l : Int) : inD (.int l) (.dct (seenD ls)) = .ok (.bl (decide (l ∈ unlikeL ls))) := by
  show R.ok (D.bl (keyD (seenD ls) l).isSome) = _
  congr 2
  rw [Bool.eq_iff_iff, decide_eq_true_iff]
  unfold keyD seenD
  rw [Option.isSome_map, List.find?_isSome]
  constructor
  · rintro ⟨e, he, q⟩
    obtain ⟨x, hx, rfl⟩ := List.mem_map.mp he
    have : x = l := of_decide_eq_true q
    subst this; exact hx
  · intro h
    exact ⟨(l, .bl true), List.mem_map.mpr ⟨l, h, rfl⟩, decide_eq_true rfl⟩
theorem keys_seen (ls : List Int) : keysD (seenD ls) = (unlikeL ls).map D.int := by
  unfold keysD seenD
  rw [List.map_map]
  rfl
theorem noD_ints : ∀ ls : List Int, noDA (ls.map D.int) = true
  | [] => rfl
  | l :: ls => by
    show (noD (.int l) && noDA (ls.map D.int)) = true
    rw [noD_ints ls]; rfl
theorem ints_D : ∀ ls : List Int, intsD (ls.map D.int) = some ls
  | [] => rfl
  | l :: ls => by
    rw [List.map_cons, intsD, ints_D ls]; rfl
end DL
/-! Counting: no program in sight. -/
namespace DL
open PySem L2
def upA (σ : Asg) (v : Nat) (b : Bool) : Asg := fun k => if k = v then b else σ k
def cntOn : List Nat → (Asg → Bool) → Asg → Nat
  | [], P, σ => if P σ = true then 1 else 0
  | v :: vs, P, σ => cntOn vs P (upA σ v true) + cntOn vs P (upA σ v false)
/-- P looks at V alone -/
def Dep (V : Nat → Prop) (P : Asg → Bool) : Prop := ∀ σ τ : Asg, (∀ k, V k → σ k = τ k) → P σ = P τ
theorem upA_comm {σ : Asg} {v w : Nat} {a b : Bool} (h : v ≠ w) : upA (upA σ v a) w b = upA (upA σ w b) v a := by
  funext k
  unfold upA
  by_cases e : k = w
  · rw [if_pos e, if_neg (fun z => h (z.symm.trans e)), if_pos e]
  · rw [if_neg e]
    by_cases e2 : k = v
    · rw [if_pos e2, if_pos e2]
    · rw [if_neg e2, if_neg e2, if_neg e]
theorem cnt_perm {vs ws : List Nat} (h : vs.Perm ws) : ∀ (P : Asg → Bool) (σ : Asg), cntOn vs P σ = cntOn ws P σ := by
  induction h with
  | nil => intro P σ; rfl
  | cons v _ ih => intro P σ; simp only [cntOn, ih]
  | swap v w l =>
    intro P σ
    by_cases e : v = w
    · subst e; rfl
    · simp only [cntOn]
      rw [upA_comm (σ := σ) (v := w) (w := v) (a := true) (b := true) (Ne.symm e), upA_comm (σ := σ) (v := w) (w := v) (a := true) (b := false) (Ne.symm e), upA_comm (σ := σ) (v := w) (w := v) (a := false) (b := true) (Ne.symm e), upA_comm (σ := σ) (v := w) (w := v) (a := false) (b := false) (Ne.symm e)]
      omega
  | trans _ _ i1 i2 => intro P σ; rw [i1, i2]
theorem cnt_agree {V : Nat → Prop} {P : Asg → Bool} (hP : Dep V P) : ∀ (vs : List Nat) (σ τ : Asg), (∀ k, V k → k ∉ vs → σ k = τ k) → cntOn vs P σ = cntOn vs P τ
  | [], σ, τ, h => by
    unfold cntOn
    rw [hP σ τ fun k hk => h k hk (by simp)]
  | v :: vs, σ, τ, h => by
    unfold cntOn
    have key : ∀ b, cntOn vs P (upA σ v b) = cntOn vs P (upA τ v b) := fun b => cnt_agree hP vs _ _ fun k hk hn => by
      unfold upA
      by_cases e : k = v
      · rw [if_pos e, if_pos e]
      · rw [if_neg e, if_neg e]
        exact h k hk (by rw [List.mem_cons]; exact fun z => z.elim e hn)
    rw [key true, key false]
theorem cnt_congr {P Q : Asg → Bool} (h : ∀ σ, P σ = Q σ) : ∀ (vs : List Nat) (σ : Asg), cntOn vs P σ = cntOn vs Q σ
  | [], σ => by unfold cntOn; rw [h]
  | v :: vs, σ => by unfold cntOn; rw [cnt_congr h vs, cnt_congr h vs]
/-- a variable that is not looked at -/
theorem cnt_free {V : Nat → Prop} {P : Asg → Bool} (hP : Dep V P) {v : Nat} (hv : ¬ V v) (vs : List Nat) (σ : Asg) : cntOn (v :: vs) P σ = 2 * cntOn vs P σ := by
  have key : ∀ b, cntOn vs P (upA σ v b) = cntOn vs P σ := fun b => cnt_agree hP vs _ _ fun k hk _ => by
    unfold upA
    rw [if_neg (fun e : k = v => hv (e ▸ hk))]
  show cntOn vs P (upA σ v true) + cntOn vs P (upA σ v false) = _
  rw [key true, key false]; omega
theorem cnt_frees {V : Nat → Prop} {P : Asg → Bool} (hP : Dep V P) : ∀ (xs vs : List Nat) (σ : Asg), (∀ v ∈ xs, ¬ V v) → cntOn (xs ++ vs) P σ = 2 ^ xs.length * cntOn vs P σ
  | [], vs, σ, _ => by simp
  | x :: xs, vs, σ, h => by
    rw [List.cons_append, cnt_free hP (h x (List.mem_cons_self ..)), cnt_frees hP xs vs σ fun v hv => h v (List.mem_cons_of_mem _ hv), List.length_cons, Nat.pow_succ]
    rw [← Nat.mul_assoc, Nat.mul_comm 2]
/-- what lies apart multiplies -/
theorem cnt_prod {V U : Nat → Prop} {P Q : Asg → Bool} (hP : Dep V P) (hQ : Dep U Q) : ∀ (vs ws : List Nat) (σ : Asg), (∀ w ∈ ws, ¬ V w) → (∀ v ∈ vs, ¬ U v) → cntOn (vs ++ ws) (fun σ => P σ && Q σ) σ = cntOn vs P σ * cntOn ws Q σ
  | [], ws, σ, h1, _ => by
    have key : ∀ (ws : List Nat) (σ : Asg), (∀ w ∈ ws, ¬ V w) → cntOn ws (fun σ => P σ && Q σ) σ = (if P σ = true then 1 else 0) * cntOn ws Q σ := by
      intro ws
      induction ws with
      | nil =>
        intro σ _
        unfold cntOn
        by_cases hp : P σ = true <;> by_cases hq : Q σ = true <;> simp [hp, hq]
      | cons w ws ih =>
        intro σ h
        have e : ∀ b, P (upA σ w b) = P σ := fun b => hP _ _ fun k hk => by
          unfold upA
          rw [if_neg (fun e : k = w => h w (List.mem_cons_self ..) (e ▸ hk))]
        show cntOn ws _ (upA σ w true) + cntOn ws _ (upA σ w false) = _ * (cntOn ws Q (upA σ w true) + cntOn ws Q (upA σ w false))
        rw [ih _ fun x hx => h x (List.mem_cons_of_mem _ hx), ih _ fun x hx => h x (List.mem_cons_of_mem _ hx), e, e, Nat.mul_add]
    exact key ws σ h1
  | v :: vs, ws, σ, h1, h2 => by
    have e : ∀ b, cntOn ws Q (upA σ v b) = cntOn ws Q σ := fun b => cnt_agree hQ ws _ _ fun k hk _ => by
      unfold upA
      rw [if_neg (fun e : k = v => h2 v (List.mem_cons_self ..) (e ▸ hk))]
    have h3 : ∀ x ∈ vs, ¬ U x := fun x hx => h2 x (List.mem_cons_of_mem _ hx)
    show cntOn (vs ++ ws) _ (upA σ v true) + cntOn (vs ++ ws) _ (upA σ v false) = (cntOn vs P (upA σ v true) + cntOn vs P (upA σ v false)) * _
    rw [cnt_prod hP hQ vs ws _ h1 h3, cnt_prod hP hQ vs ws _ h1 h3, e, e, Nat.add_mul]
theorem cnt_le (vs : List Nat) (P : Asg → Bool) : ∀ σ, cntOn vs P σ ≤ 2 ^ vs.length := by
  induction vs with
  | nil => intro σ; unfold cntOn; split <;> simp
  | cons v vs ih =>
    intro σ
    have := ih (upA σ v true)
    have := ih (upA σ v false)
    unfold cntOn
    rw [List.length_cons, Nat.pow_succ]
    omega
/-! ### formulas -/
def occV (f : List (List Int)) (k : Nat) : Prop := (k : Int) ∈ occ f ∨ -(k : Int) ∈ occ f
theorem dep_ft (f : List (List Int)) : Dep (occV f) (fun σ => ft σ f) := by
  intro σ τ h
  refine ft_agree fun l hl => ?_
  unfold lt
  have : occV f l.natAbs := by
    by_cases p : 0 ≤ l
    · exact .inl (by rw [show ((l.natAbs : Nat) : Int) = l by omega]; exact hl)
    · exact .inr (by rw [show -((l.natAbs : Nat) : Int) = l by omega]; exact hl)
  rw [h _ this]
/-- a literal true: what is left is as true -/
theorem ft_when {τ : Asg} {f : List (List Int)} {l : Int} (hz : ∀ c ∈ f, ∀ x ∈ c, x ≠ 0) (hl : l ≠ 0) : ft (setL τ l) f = ft τ (whenL f l) := by
  unfold ft
  rw [Bool.eq_iff_iff, List.all_eq_true, List.all_eq_true]
  constructor
  · intro h c hc
    obtain ⟨d, hd, rfl⟩ := List.mem_map.mp hc
    obtain ⟨hd, hm⟩ := List.mem_filter.mp hd
    have := h d hd
    unfold ct at this ⊢
    rw [List.any_eq_true] at this ⊢
    obtain ⟨x, hx, q⟩ := this
    rw [lt_setL (hz d hd x hx)] at q
    have n1 : x ≠ l := fun z => by
      subst z
      rw [decide_eq_true hx] at hm; cases hm
    rw [if_neg n1] at q
    by_cases n2 : x = -l
    · rw [if_pos n2] at q; cases q
    · rw [if_neg n2] at q
      exact ⟨x, List.mem_filter.mpr ⟨hx, by rw [decide_eq_false n2]; rfl⟩, q⟩
  · intro h c hc
    by_cases m : l ∈ c
    · unfold ct
      rw [List.any_eq_true]
      exact ⟨l, m, by rw [lt_setL hl, if_pos rfl]⟩
    · have := h (c.filter fun x => !decide (x = -l)) (List.mem_map.mpr ⟨c, List.mem_filter.mpr ⟨hc, by rw [decide_eq_false m]; rfl⟩, rfl⟩)
      unfold ct at this ⊢
      rw [List.any_eq_true] at this ⊢
      obtain ⟨x, hx, q⟩ := this
      obtain ⟨hx, hne⟩ := List.mem_filter.mp hx
      refine ⟨x, hx, ?_⟩
      rw [lt_setL (hz c hc x hx), if_neg (fun z : x = l => m (z ▸ hx)), if_neg (by simpa using hne)]
      exact q
theorem setL_up (τ : Asg) (k : Nat) (hk : 1 ≤ k) : setL τ (k : Int) = upA τ k true ∧ setL τ (-(k : Int)) = upA τ k false := by
  constructor
  · funext j
    unfold setL upA
    rw [show (k : Int).natAbs = k by omega, decide_eq_true (by omega)]
  · funext j
    unfold setL upA
    rw [show (-(k : Int)).natAbs = k by omega, decide_eq_false (by omega)]
theorem cnt_split {f : List (List Int)} (hz : ∀ c ∈ f, ∀ x ∈ c, x ≠ 0) {k : Nat} (hk : 1 ≤ k) : ∀ (vs : List Nat) (σ : Asg), k ∉ vs →
    cntOn (k :: vs) (fun σ => ft σ f) σ = cntOn vs (fun σ => ft σ (whenL f (k : Int))) σ + cntOn vs (fun σ => ft σ (whenL f (-(k : Int)))) σ := by
  intro vs σ hn
  have gen : ∀ (b : Bool) (l : Int), l ≠ 0 → (∀ τ, setL τ l = upA τ k b) → ∀ (vs : List Nat) (σ : Asg), k ∉ vs → cntOn vs (fun σ => ft σ f) (upA σ k b) = cntOn vs (fun σ => ft σ (whenL f l)) σ := by
    intro b l hl hs vs
    induction vs with
    | nil =>
      intro σ _
      unfold cntOn
      rw [← hs]
      simp only [ft_when hz hl]
    | cons v vs ih =>
      intro σ hn
      rw [List.mem_cons] at hn
      have ne : k ≠ v := fun z => hn (.inl z)
      unfold cntOn
      rw [upA_comm ne, upA_comm ne, ih _ (fun z => hn (.inr z)), ih _ (fun z => hn (.inr z))]
  show cntOn vs _ (upA σ k true) + cntOn vs _ (upA σ k false) = _
  rw [gen true (k : Int) (by omega) (fun τ => (setL_up τ k hk).1) vs σ hn, gen false (-(k : Int)) (by omega) (fun τ => (setL_up τ k hk).2) vs σ hn]
/-! ### truths by numbers -/
def bitN (m n : Nat) : Bool := decide (n / 2 ^ m % 2 = 1)
def ofL : List Nat → Nat → Asg → Asg
  | [], _, σ => σ
  | v :: vs, n, σ => ofL vs n (upA σ v (bitN vs.length n))
theorem ofL_out : ∀ {vs : List Nat} {n : Nat} {σ : Asg} {k : Nat}, k ∉ vs → ofL vs n σ k = σ k
  | [], _, _, _, _ => rfl
  | v :: vs, n, σ, k, h => by
    rw [List.mem_cons] at h
    unfold ofL
    rw [ofL_out (fun z => h (.inr z))]
    unfold upA
    rw [if_neg (fun z => h (.inl z))]
theorem ofL_at : ∀ {vs : List Nat} {n : Nat} {σ : Asg} {i : Nat} (h : i < vs.length), vs.Nodup → ofL vs n σ vs[i] = bitN (vs.length - 1 - i) n
  | [], _, _, _, h, _ => by simp at h
  | v :: vs, n, σ, 0, h, hn => by
    rw [List.nodup_cons] at hn
    unfold ofL
    rw [List.getElem_cons_zero, ofL_out hn.1]
    unfold upA
    rw [if_pos rfl]
    simp
  | v :: vs, n, σ, i + 1, h, hn => by
    rw [List.nodup_cons] at hn
    unfold ofL
    rw [List.getElem_cons_succ, ofL_at (by simpa using h) hn.2]
    congr 1
    simp
    omega
theorem bit_low {m j n : Nat} (h : j < m) : bitN j (n + 2 ^ m) = bitN j n := by
  unfold bitN
  have : 2 ^ m = 2 ^ j * (2 * 2 ^ (m - j - 1)) := by
    rw [← Nat.mul_assoc, ← Nat.pow_succ, ← Nat.pow_add]
    congr 1; omega
  rw [this, Nat.add_mul_div_left _ _ (Nat.two_pow_pos _), Nat.add_mul_mod_self_left]
theorem ofL_low : ∀ {vs : List Nat} {m n : Nat} {σ : Asg}, vs.length ≤ m → ofL vs (n + 2 ^ m) σ = ofL vs n σ
  | [], _, _, _, _ => rfl
  | v :: vs, m, n, σ, h => by
    simp at h
    unfold ofL
    rw [bit_low (by omega), ofL_low (by omega)]
theorem range_two (a b : Nat) : List.range (a + b) = List.range a ++ (List.range b).map (· + a) := by
  induction b with
  | zero => simp
  | succ b ih =>
    rw [← Nat.add_assoc, List.range_succ, ih, List.range_succ, List.map_append, List.append_assoc]
    congr 2
    simp; omega
theorem cnt_range (P : Asg → Bool) : ∀ (vs : List Nat) (σ : Asg), ((List.range (2 ^ vs.length)).filter fun n => P (ofL vs n σ)).length = cntOn vs P σ
  | [], σ => by
    show ([0].filter fun n => P σ).length = if P σ = true then 1 else 0
    by_cases h : P σ = true <;> simp [h]
  | v :: vs, σ => by
    have e0 : ∀ n ∈ List.range (2 ^ vs.length), P (ofL (v :: vs) n σ) = P (ofL vs n (upA σ v false)) := fun n hn => by
      have hb : bitN vs.length n = false := by
        unfold bitN
        rw [Nat.div_eq_of_lt (List.mem_range.mp hn)]; rfl
      show P (ofL vs n (upA σ v (bitN vs.length n))) = _
      rw [hb]
    have e1 : ∀ n ∈ List.range (2 ^ vs.length), P (ofL (v :: vs) (n + 2 ^ vs.length) σ) = P (ofL vs n (upA σ v true)) := fun n hn => by
      have hb : bitN vs.length (n + 2 ^ vs.length) = true := by
        unfold bitN
        rw [Nat.add_div_right _ (Nat.two_pow_pos _), Nat.div_eq_of_lt (List.mem_range.mp hn)]; rfl
      show P (ofL vs (n + 2 ^ vs.length) (upA σ v (bitN vs.length (n + 2 ^ vs.length)))) = _
      rw [hb, ofL_low (Nat.le_refl _)]
    rw [List.length_cons, Nat.pow_succ, Nat.mul_two, range_two, List.filter_append, List.length_append, List.filter_map, List.length_map, List.filter_congr e0]
    rw [List.filter_congr (p := (fun n => P (ofL (v :: vs) n σ)) ∘ fun x => x + 2 ^ vs.length) (q := fun n => P (ofL vs n (upA σ v true))) e1, cnt_range P vs, cnt_range P vs]
    show _ = cntOn vs P (upA σ v true) + cntOn vs P (upA σ v false)
    omega
/-- the variables 1..v -/
def varN (v : Nat) : List Nat := (List.range v).map (· + 1)
theorem varN_nodup (v : Nat) : (varN v).Nodup := by
  unfold varN
  exact List.Pairwise.map _ (fun a b h z => h (by omega)) List.nodup_range
theorem mem_varN {v k : Nat} : k ∈ varN v ↔ 1 ≤ k ∧ k ≤ v := by
  unfold varN
  rw [List.mem_map]
  constructor
  · rintro ⟨j, hj, rfl⟩; have := List.mem_range.mp hj; omega
  · rintro ⟨h1, h2⟩; exact ⟨k - 1, List.mem_range.mpr (by omega), by omega⟩
theorem ofS_ofL {v n : Nat} (σ : Asg) {k : Nat} (h1 : 1 ≤ k) (h2 : k ≤ v) : ofL (varN v) n σ k = ofS v n k := by
  have hl : (varN v).length = v := by simp [varN]
  have := ofL_at (vs := varN v) (n := n) (σ := σ) (i := k - 1) (by omega) (varN_nodup v)
  have e : (varN v)[k - 1]'(by omega) = k := by simp [varN]; omega
  rw [e, hl] at this
  rw [this]
  unfold ofS bitN
  rw [show v - 1 - (k - 1) = v - k by omega]
theorem models_cnt {v : Nat} {f : List (List Int)} (hf : ∀ c ∈ f, InR v c) (σ : Asg) : (models v f).length = cntOn (varN v) (fun σ => ft σ f) σ := by
  have e : ∀ n, (f.all fun c => c.any fun l => decide (l ∈ asg v (ofS v n))) = ft (ofL (varN v) n σ) f := by
    intro n
    rw [ft_ext (v := v) (fun k h1 h2 => ofS_ofL σ h1 h2) hf]
    unfold ft
    rw [Bool.eq_iff_iff, List.all_eq_true, List.all_eq_true]
    constructor
    · intro q d hd; rw [← any_asg (hf d hd)]; exact q d hd
    · intro q d hd; rw [any_asg (hf d hd)]; exact q d hd
  have := cnt_range (fun σ => ft σ f) (varN v) σ
  rw [show (varN v).length = v by simp [varN]] at this
  rw [← this]
  unfold models
  rw [List.filter_map, List.length_map]
  congr 1
  refine List.filter_congr fun n _ => ?_
  exact e n
/-- the numbers of literals -/
def absL (c : List Int) : List Int := c.map fun l => (l.natAbs : Int)
theorem mem_absL {c : List Int} {k : Nat} : (k : Int) ∈ absL c ↔ (k : Int) ∈ c ∨ -(k : Int) ∈ c := by
  unfold absL
  rw [List.mem_map]
  constructor
  · rintro ⟨l, hl, e⟩
    by_cases p : 0 ≤ l
    · exact .inl (by rw [show (k : Int) = l by omega]; exact hl)
    · exact .inr (by rw [show -(k : Int) = l by omega]; exact hl)
  · rintro (h | h)
    · exact ⟨_, h, by omega⟩
    · exact ⟨_, h, by omega⟩
end DL
namespace DL
open PySem L2
theorem fcell (ns : List Int) (k : Int) : f__law_cell [.scr ns, .int k] = .ok (.int (cellZ ns k)) := cell_eq ns k
theorem fmix (ns : List Int) (k : Int) : f__law_mix [.scr ns, .int k] = .ok (.int (mixZ ns k)) := mix_eq ns k
/-- a number of a list of numbers -/
def pk (xs : List Int) (i : Int) : Int := match atI xs i with
  | some x => x
  | none => 0
theorem pk_at {xs : List Int} {i : Int} (h0 : 0 ≤ i) (h : i < xs.length) : atI (xs.map D.int) i = some (.int (pk xs i)) ∧ pk xs i ∈ xs := by
  obtain ⟨x, hx, e⟩ := atI_mem h0 h
  unfold pk
  rw [atI_map, e]
  exact ⟨rfl, hx⟩
end DL
namespace DL
open PySem L2
/-! ### _law_clause -/
def litZ (ns : List Int) (b v : Int) (k : Nat) : Int := (1 + mixZ ns (b + 1 + k) / 2 % v) * (1 - 2 * (mixZ ns (b + 1 + k) % 2))
def sizeZ (ns : List Int) (b m : Int) : Int := pk [1, 2, 3, 2, 3, mixZ ns b / 6 % (m + 1)] (mixZ ns b % 6)
def clZ (ns : List Int) (b v m : Int) : List Int := (List.range (sizeZ ns b m).toNat).map (litZ ns b v)
theorem litZ_ok (ns : List Int) (b : Int) {v : Int} (hv : 0 < v) (k : Nat) : litOk v.toNat (litZ ns b v k) := by
  unfold litZ litOk
  have h1 := md_lo (mixZ ns (b + 1 + k) / 2) hv
  have h2 := md_hi (mixZ ns (b + 1 + k) / 2) hv
  have h3 := md_lo (mixZ ns (b + 1 + k)) (b := 2) (by decide)
  have h4 := md_hi (mixZ ns (b + 1 + k)) (b := 2) (by decide)
  generalize mixZ ns (b + 1 + k) / 2 % v = x at *
  generalize mixZ ns (b + 1 + k) % 2 = y at *
  have : y = 0 ∨ y = 1 := by omega
  rcases this with rfl | rfl
  · simp; omega
  · simp; omega
theorem clZ_ok (ns : List Int) (b : Int) {v : Int} (hv : 0 < v) (m : Int) : InR v.toNat (clZ ns b v m) := by
  intro l hl
  unfold clZ at hl
  obtain ⟨k, _, rfl⟩ := List.mem_map.mp hl
  exact litZ_ok ns b hv k
theorem sizeZ_lo (ns : List Int) (b : Int) {m : Int} (hm : 0 ≤ m) : 0 ≤ sizeZ ns b m ∧ sizeZ ns b m ≤ 3 + m := by
  have h := (pk_at (xs := [1, 2, 3, 2, 3, mixZ ns b / 6 % (m + 1)]) (md_lo (mixZ ns b) (b := 6) (by decide)) (md_hi (mixZ ns b) (b := 6) (by decide))).2
  have h1 := md_lo (mixZ ns b / 6) (b := m + 1) (by omega)
  have h2 := md_hi (mixZ ns b / 6) (b := m + 1) (by omega)
  unfold sizeZ
  generalize pk [1, 2, 3, 2, 3, mixZ ns b / 6 % (m + 1)] (mixZ ns b % 6) = x at *
  simp at h
  rcases h with h | h | h | h <;> omega
theorem clZ_len (ns : List Int) (b v : Int) {m : Int} (hm : 0 ≤ m) : (clZ ns b v m).length ≤ 3 + m.toNat := by
  have := sizeZ_lo ns b hm
  simp [clZ]; omega
theorem fclause (ns : List Int) (b : Int) {v m : Int} (hv : 0 < v) (hm : 0 ≤ m) (hm2 : m < 1000) : f__law_clause [.scr ns, .int b, .int v, .int m] = .ok (cD (clZ ns b v m)) := by
  have p := (pk_at (xs := [1, 2, 3, 2, 3, mixZ ns b / 6 % (m + 1)]) (md_lo (mixZ ns b) (b := 6) (by decide)) (md_hi (mixZ ns b) (b := 6) (by decide))).1
  have hs := sizeZ_lo ns b hm
  refine run_rt ?_
  show m__law_clause [.fz (.scr ns), .fz (.int b), .fz (.int v), .fz (.int m), .un, .un, .un, .un, .un] = _
  refine seq_nx (S1 := [.fz (.scr ns), .fz (.int b), .fz (.int v), .fz (.int m), .fz (.int (mixZ ns b)), .un, .un, .un, .un]) (by simp [s0__law_clause, fmix]) ?_
  refine seq_nx (S1 := [.fz (.scr ns), .fz (.int b), .fz (.int v), .fz (.int m), .fz (.int (mixZ ns b)), .fz (.int (sizeZ ns b m)), .un, .un, .un]) ?_ ?_
  · have e1 : modD (.int (mixZ ns b / 6)) (.int (m + 1)) = .ok (.int (mixZ ns b / 6 % (m + 1))) := modI (by omega)
    have e2 := fdivI (i := mixZ ns b) (j := 6) (by decide) (by decide)
    simp only [List.map_cons, List.map_nil] at p
    simp [s1__law_clause, e1, e2, limS, modI, p, sizeZ]
  refine seq_nx (S1 := [.fz (.scr ns), .fz (.int b), .fz (.int v), .fz (.int m), .fz (.int (mixZ ns b)), .fz (.int (sizeZ ns b m)), .ol [], .un, .un]) (by simp [s2__law_clause, limS]) ?_
  obtain ⟨S', e, i⟩ := loop_nx (t := .one 7) (body := b0__law_clause) (xs := List.range (sizeZ ns b m).toNat) (S := [.fz (.scr ns), .fz (.int b), .fz (.int v), .fz (.int m), .fz (.int (mixZ ns b)), .fz (.int (sizeZ ns b m)), .ol [], .un, .un]) (fun i : Nat => D.int (i : Int))
    (fun pre S => ∃ x y, S = [.fz (.scr ns), .fz (.int b), .fz (.int v), .fz (.int m), .fz (.int (mixZ ns b)), .fz (.int (sizeZ ns b m)), .ol ((pre.map (litZ ns b v)).map D.int), x, y]) (by
      rintro pre k post S hx ⟨x, y, rfl⟩
      refine ⟨_, [.fz (.scr ns), .fz (.int b), .fz (.int v), .fz (.int m), .fz (.int (mixZ ns b)), .fz (.int (sizeZ ns b m)), .ol ((pre.map (litZ ns b v)).map D.int ++ [.int (litZ ns b v k)]), .fz (.int k), .fz (.int (mixZ ns (b + 1 + k)))], rfl, .inl ?_, ⟨_, _, by rw [List.map_append, List.map_append]; rfl⟩⟩
      refine seq_nx (S1 := [.fz (.scr ns), .fz (.int b), .fz (.int v), .fz (.int m), .fz (.int (mixZ ns b)), .fz (.int (sizeZ ns b m)), .ol ((pre.map (litZ ns b v)).map D.int), .fz (.int k), .fz (.int (mixZ ns (b + 1 + k)))]) (by simp [fmix]) ?_
      have hlen : pre.length ≤ (sizeZ ns b m).toNat := by
        have := congrArg List.length hx
        simp at this
        omega
      refine mApp_eq (ds := (pre.map (litZ ns b v)).map D.int) rfl ?_ (by simp; have := big; omega)
      have e1 := fdivI (i := mixZ ns (b + 1 + k)) (j := 2) (by decide) (by decide)
      have e2 := modI (i := mixZ ns (b + 1 + k) / 2) hv
      have h3 := md_lo (mixZ ns (b + 1 + k)) (b := 2) (by decide)
      have h4 := md_hi (mixZ ns (b + 1 + k)) (b := 2) (by decide)
      have e3 := mulR (i := 2) (j := mixZ ns (b + 1 + k) % 2) (by omega) (by omega)
      have e4 := mulR (i := 1 + mixZ ns (b + 1 + k) / 2 % v) (j := 1 - 2 * (mixZ ns (b + 1 + k) % 2)) (by omega) (by omega)
      simp [e1, e2, e3, e4, modI, litZ]) ⟨_, _, rfl⟩
  obtain ⟨x, y, rfl⟩ := i
  refine seq_nx (S1 := _) (by
    show mFor _ _ _ _ = _
    rw [s_mFor]
    simp only [i0__law_clause, s_aCons, s_getV0, s_getVs, R.bind_ok, s_aNil, rng1_eq (n := sizeZ ns b m) (by omega) (by omega), toSL_ok]
    exact e) ?_
  simp [s4__law_clause, cD, clZ]
end DL
namespace DL
open PySem L2
/-! ### _law_formula -/
def fv (ns : List Int) (b : Int) : Int := 1 + mixZ ns b % 4
def fc (ns : List Int) (b : Int) : List (List Int) := (List.range (mixZ ns (b + 1) % 9).toNat).map fun k : Nat => clZ ns (b + 2 + 5 * (k : Int)) (fv ns b) 4
theorem fv_ok (ns : List Int) (b : Int) : 1 ≤ fv ns b ∧ fv ns b ≤ 4 := by
  have h3 := md_lo (mixZ ns b) (b := 4) (by decide)
  have h4 := md_hi (mixZ ns b) (b := 4) (by decide)
  unfold fv; omega
theorem fc_ok (ns : List Int) (b : Int) : ∀ c ∈ fc ns b, InR (fv ns b).toNat c := by
  intro c hc
  obtain ⟨k, _, rfl⟩ := List.mem_map.mp hc
  exact clZ_ok _ _ (by have := fv_ok ns b; omega) _
theorem fc_len (ns : List Int) (b : Int) : (fc ns b).length ≤ 8 := by
  have h4 := md_hi (mixZ ns (b + 1)) (b := 9) (by decide)
  unfold fc; simp; omega
theorem fc_cl (ns : List Int) (b : Int) : ∀ c ∈ fc ns b, c.length ≤ 7 := by
  intro c hc
  obtain ⟨k, _, rfl⟩ := List.mem_map.mp hc
  exact clZ_len ns _ _ (m := 4) (by decide)
theorem fformula (ns : List Int) (b : Int) : f__law_formula [.scr ns, .int b] = .ok (.tup [.int (fv ns b), fD (fc ns b)]) := by
  have hv := fv_ok ns b
  have h3 := md_lo (mixZ ns (b + 1)) (b := 9) (by decide)
  have h4 := md_hi (mixZ ns (b + 1)) (b := 9) (by decide)
  refine run_rt ?_
  show m__law_formula [.fz (.scr ns), .fz (.int b), .un, .un, .un] = _
  refine seq_nx (S1 := [.fz (.scr ns), .fz (.int b), .fz (.int (fv ns b)), .un, .un]) (by simp [s0__law_formula, fmix, modI, fv]) ?_
  refine seq_nx (S1 := [.fz (.scr ns), .fz (.int b), .fz (.int (fv ns b)), .fz (.int (mixZ ns (b + 1) % 9)), .un]) (by simp [s1__law_formula, fmix, modI]) ?_
  have e : mLc (.one 4) [4] i0__law_formula mYes e0__law_formula [.fz (.scr ns), .fz (.int b), .fz (.int (fv ns b)), .fz (.int (mixZ ns (b + 1) % 9)), .un] = .ok ((List.range (mixZ ns (b + 1) % 9).toNat).map fun k : Nat => cD (clZ ns (b + 2 + 5 * (k : Int)) (fv ns b) 4)) := by
    refine mLc_map _ (fun i : Nat => D.int (i : Int)) _ ?_ (by simp; have := big; omega) ?_
    · simp [i0__law_formula, rng1_eq (n := mixZ ns (b + 1) % 9) (by omega) (by omega)]
    · intro k hk
      have := List.mem_range.mp hk
      refine ⟨_, rfl, ?_⟩
      have e1 := mulL (i := 5) (j := (k : Int)) (by decide) (by decide)
      have e2 := fclause ns (b + 2 + 5 * (k : Int)) (v := fv ns b) (m := 4) (by omega) (by decide) (by decide)
      simp [e0__law_formula, wipeS, e1, e2]
  have l2 : ∀ x y : D, lim [x, y] = .ok [x, y] := fun x y => limS (by simp)
  simp [s2__law_formula, e, l2, fD, fc, Function.comp_def]
end DL
namespace DL
open PySem L2
/-! ### _law_models -/
theorem pow_at (k : Nat) (h : k < 5) : atI [D.int 1, D.int 2, D.int 4, D.int 8, D.int 16] (k : Int) = some (.int ((2 ^ k : Nat) : Int)) := by
  have : ∀ k, k < 5 → ([D.int 1, D.int 2, D.int 4, D.int 8, D.int 16] : List D)[k]? = some (.int ((2 ^ k : Nat) : Int)) := by
    intro k h
    match k, h with
    | 0, _ => rfl
    | 1, _ => rfl
    | 2, _ => rfl
    | 3, _ => rfl
    | 4, _ => rfl
  exact atI_nat (this k h)
theorem pow_at6 (k : Nat) (h : k < 6) : atI [D.int 1, D.int 2, D.int 4, D.int 8, D.int 16, D.int 32] (k : Int) = some (.int ((2 ^ k : Nat) : Int)) := by
  have : ∀ k, k < 6 → ([D.int 1, D.int 2, D.int 4, D.int 8, D.int 16, D.int 32] : List D)[k]? = some (.int ((2 ^ k : Nat) : Int)) := by
    intro k h
    match k, h with
    | 0, _ => rfl
    | 1, _ => rfl
    | 2, _ => rfl
    | 3, _ => rfl
    | 4, _ => rfl
    | 5, _ => rfl
  exact atI_nat (this k h)
theorem lim5 (a b c d e : D) : lim [a, b, c, d, e] = .ok [a, b, c, d, e] := limS (by simp)
theorem lim6 (a b c d e f : D) : lim [a, b, c, d, e, f] = .ok [a, b, c, d, e, f] := limS (by simp)
theorem lim0 : lim [] = .ok [] := limS (by simp)
theorem model_lit {v k n : Nat} (hv : v ≤ 5) (hk : k < v) (f : D) (o : D) (os ms : List D) (y z : Sl) : (m2 mulD (m2 addD (getV 5) (cst (.int 1))) (m2 subD (m2 mulD (cst (.int 2)) (m2 modD (m2 fdivD (getV 3) (m2 ixD (fun S => ((aLim (aCons (cst (.int 1)) (aCons (cst (.int 2)) (aCons (cst (.int 4)) (aCons (cst (.int 8)) (aCons (cst (.int 16)) aNil)))))) S).bind fun ds => .ok (.lst ds)) (m2 subD (m2 subD (getV 0) (cst (.int 1))) (getV 5)))) (cst (.int 2)))) (cst (.int 1)))) [.fz (.int v), .fz f, .ol os, .fz (.int n), .ol ms, .fz (.int k), y, z] = .ok (.int (sg (ofS v n) (k + 1))) := by
  have e0 : ((v : Int) - 1 - k) = ((v - 1 - k : Nat) : Int) := by omega
  have e1 := pow_at (v - 1 - k) (by omega)
  have hp : 2 ^ (v - 1 - k) ≤ 16 := by
    exact Nat.le_trans (Nat.pow_le_pow_right (by decide) (show v - 1 - k ≤ 4 by omega)) (by decide)
  have hp1 := Nat.two_pow_pos (v - 1 - k)
  have e7 : sg (ofS v n) (k + 1) = if n / 2 ^ (v - 1 - k) % 2 = 1 then ((k : Int) + 1) else -((k : Int) + 1) := by
    unfold sg ofS
    rw [show v - (k + 1) = v - 1 - k from by omega]
    simp
  rw [e7]
  generalize 2 ^ (v - 1 - k) = p at *
  have e2 := fdivI (i := (n : Int)) (j := (p : Int)) (by omega) (by omega)
  have e3 := modI (i := (n : Int) / (p : Int)) (j := 2) (by decide)
  have e8 : (n : Int) / (p : Int) % 2 = ((n / p % 2 : Nat) : Int) := by norm_cast
  have h34 : n / p % 2 = 0 ∨ n / p % 2 = 1 := by omega
  rw [e8] at e3
  generalize n / p % 2 = r at *
  have e4 := mulL (i := 2) (j := (r : Int)) (by decide) (by decide)
  have e5 := mulR (i := (k : Int) + 1) (j := 2 * (r : Int) - 1) (by omega) (by omega)
  have e6 : ((k : Int) + 1) * (2 * (r : Int) - 1) = if r = 1 then ((k : Int) + 1) else -((k : Int) + 1) := by
    rcases h34 with h | h
    · rw [h]; simp
    · rw [h]; simp
  rw [← e6]
  simp [lim5, e0, e1, e2, e3, e4, e5]
theorem model_loop {v : Nat} (hv : v ≤ 5) (n : Nat) (f : D) (o : List D) (x y z : Sl) :
    ∃ x', mFor (.one 5) i1__law_models b0__law_models [.fz (.int v), .fz f, .ol o, .fz (.int n), .ol [], x, y, z] = .nx [.fz (.int v), .fz f, .ol o, .fz (.int n), .ol ((asg v (ofS v n)).map D.int), x', y, z] := by
  obtain ⟨S', e, x', rfl⟩ := loop_nx (t := .one 5) (body := b0__law_models) (xs := List.range v) (S := [.fz (.int v), .fz f, .ol o, .fz (.int n), .ol [], x, y, z]) (fun i : Nat => D.int (i : Int))
    (fun pre S => ∃ x', S = [.fz (.int v), .fz f, .ol o, .fz (.int n), .ol ((pre.map fun k => sg (ofS v n) (k + 1)).map D.int), x', y, z]) (by
      rintro pre k post S hx ⟨x', rfl⟩
      have hk : k < v := List.mem_range.mp (by rw [hx]; simp)
      have hlen : pre.length ≤ v := by
        have := congrArg List.length hx
        simp at this
        omega
      refine ⟨_, _, rfl, .inl (mApp_eq (ds := (pre.map fun k => sg (ofS v n) (k + 1)).map D.int) (d := .int (sg (ofS v n) (k + 1))) rfl ?_ (by simp; have := big; omega)), ⟨_, by rw [List.map_append, List.map_append]; rfl⟩⟩
      exact model_lit hv hk f (.non) o _ y z) ⟨x, rfl⟩
  refine ⟨x', ?_⟩
  rw [s_mFor]
  simp only [i1__law_models, s_aCons, s_getV0, R.bind_ok, s_aNil, rng1_eq (n := (v : Int)) (by omega) (by omega), toSL_ok]
  exact e
theorem models_test {v : Nat} (f : List (List Int)) (m : List Int) (o : List D) (hf : f.length ≤ 1000) (hc : ∀ c ∈ f, c.length ≤ 1000) (n x y z : Sl) :
    (mLc (.one 6) [6] (mItems (getV 1)) mYes e1__law_models [.fz (.int v), .fz (fD f), .ol o, n, .ol (m.map D.int), x, y, z]) = .ok (f.map fun c => .bl (c.any fun l => decide (l ∈ m))) := by
  have hb := big
  refine mLc_map f cD _ rfl (by omega) fun c h => ⟨_, rfl, ?_⟩
  have e : mLc (.one 7) [7] (mItems (getV 6)) mYes e0__law_models [.fz (.int v), .fz (fD f), .ol o, n, .ol (m.map D.int), x, .fz (cD c), z] = .ok (c.map fun l => .bl (decide (l ∈ m))) :=
    mLc_map c D.int _ rfl (by have := hc c h; omega) fun l _ => ⟨_, rfl, by simp [e0__law_models, wipeS, in_lst]⟩
  simp [e1__law_models, wipeS, e, any_map]
theorem fmodels {v : Nat} (hv : v ≤ 5) {f : List (List Int)} (hf : f.length ≤ 1000) (hc : ∀ c ∈ f, c.length ≤ 1000) : f__law_models [.int (v : Int), fD f] = .ok (.lst ((models v f).map cD)) := by
  have hp : 2 ^ v ≤ 32 := by
    exact Nat.le_trans (Nat.pow_le_pow_right (by decide) hv) (by decide)
  refine run_rt ?_
  show m__law_models [.fz (.int v), .fz (fD f), .un, .un, .un, .un, .un, .un] = _
  refine seq_nx (S1 := [.fz (.int v), .fz (fD f), .ol [], .un, .un, .un, .un, .un]) (by simp [s0__law_models, lim0]) ?_
  obtain ⟨S', e, a, b, x, y, z, rfl⟩ := loop_nx (t := .one 3) (body := b1__law_models) (xs := List.range (2 ^ v)) (S := [.fz (.int v), .fz (fD f), .ol [], .un, .un, .un, .un, .un]) (fun i : Nat => D.int (i : Int))
    (fun pre S => ∃ a b x y z, S = [.fz (.int v), .fz (fD f), .ol (((pre.map fun n => asg v (ofS v n)).filter fun m => f.all fun c => c.any fun l => decide (l ∈ m)).map cD), a, b, x, y, z]) (by
      rintro pre n post S hx ⟨a, b, x, y, z, rfl⟩
      have hlen : pre.length ≤ 32 := by
        have := congrArg List.length hx
        simp at this
        omega
      generalize ho : (((pre.map fun n => asg v (ofS v n)).filter fun m => f.all fun c => c.any fun l => decide (l ∈ m)).map cD) = o
      have hol : o.length ≤ 32 := by
        rw [← ho, List.length_map]
        have := List.length_filter_le (fun m => f.all fun c => c.any fun l => decide (l ∈ m)) (pre.map fun n => asg v (ofS v n))
        rw [List.length_map] at this
        omega
      obtain ⟨x', em⟩ := model_loop hv n (fD f) o x y z
      have et := models_test (v := v) f (asg v (ofS v n)) o hf hc (.fz (.int n)) x' y z
      refine ⟨_, [.fz (.int v), .fz (fD f), .ol (o ++ (if (f.all fun c => c.any fun l => decide (l ∈ asg v (ofS v n))) = true then [cD (asg v (ofS v n))] else [])), .fz (.int n), .ol ((asg v (ofS v n)).map D.int), x', y, z], rfl, .inl ?_, .fz (.int n), .ol ((asg v (ofS v n)).map D.int), x', y, z, ?_⟩
      · refine seq_nx (S1 := [.fz (.int v), .fz (fD f), .ol o, .fz (.int n), .ol [], x, y, z]) (by simp [lim0]) ?_
        refine seq_nx em ?_
        rw [s_mIfS]
        simp only [s_aCons, et, R.bind_ok, s_aNil, s_on1, all_map, s_trB, toSL_ok]
        split
        · rw [mApp_eq (ds := o) (d := cD (asg v (ofS v n))) rfl (by simp [cD]) (by have := big; omega)]
          rfl
        · simp
      · rw [List.map_append, List.filter_append, List.map_append, ho]
        have : ((([n].map fun n => asg v (ofS v n)).filter fun m => f.all fun c => c.any fun l => decide (l ∈ m)).map cD) = (if (f.all fun c => c.any fun l => decide (l ∈ asg v (ofS v n))) = true then [cD (asg v (ofS v n))] else []) := by
          simp only [List.map_cons, List.map_nil, List.filter_cons, List.filter_nil]
          split <;> rfl
        rw [this]) ⟨_, _, _, _, _, rfl⟩
  refine seq_nx (S1 := _) (by
    show mFor _ _ _ _ = _
    rw [s_mFor]
    have e6 := pow_at6 v (by omega)
    have e7 := rng1_nat (q := 2 ^ v) (by omega)
    simp only [i0__law_models, s_aCons, s_m2, s_aLim, s_cst, s_getV0, R.bind_ok, s_aNil, lim6, s_ixL, e6, s_optS, e7, toSL_ok]
    exact e) ?_
  refine seq_nx (mFrz_l rfl) ?_
  simp [s2__law_models, models]
end DL
namespace DL
open PySem L2
/-! ### made -/
theorem fmade (m : List Int) (hm : m.length ≤ 1000) : f_made [.lst (m.map D.int)] = .ok (.dct (madeL m)) := by
  refine run_rt ?_
  show m_made [.fz (.lst (m.map D.int)), .un, .un] = _
  refine seq_nx (S1 := [.fz (.lst (m.map D.int)), .od [], .un]) rfl ?_
  obtain ⟨S', e, x, rfl⟩ := loop_nx (t := .one 2) (body := b0_made) (xs := m) (S := [.fz (.lst (m.map D.int)), .od [], .un]) D.int
    (fun pre S => ∃ x, S = [.fz (.lst (m.map D.int)), .od (madeL pre), x]) (by
      rintro pre l post S hx ⟨x, rfl⟩
      have h1 : pre.length ≤ m.length := by rw [hx]; simp
      have h2 := madeL_len pre
      refine ⟨_, _, rfl, .inl ?_, .fz (.int l), by rw [madeL_snoc]⟩
      show b0_made [.fz (.lst (m.map D.int)), .od (madeL pre), .fz (.int l)] = _
      unfold b0_made mPut
      simp only [List.getElem?_cons_succ, List.getElem?_cons_zero, s_getF0, s_getFs, toS_ok, s_aCons, s_getV0, s_getVs, R.bind_ok, s_aNil, s_on1, s_absI, abs_nat]
      rw [if_pos (by have := big; omega)]
      rfl) ⟨_, rfl⟩
  refine seq_nx (S1 := _) e ?_
  refine seq_nx (mFrz_d rfl) ?_
  simp [s2_made]
end DL
namespace DL
open PySem L2
theorem fistrue (es : List (Int × D)) (l : Int) (d : Int) (h : (keyD es (l.natAbs : Int)).getD (.int 0) = .int d) : f_is_true [.dct es, .int l] = .ok (.bl (decide (d = l))) := by
  refine run_rt ?_
  show m_is_true [.fz (.dct es), .fz (.int l)] = _
  have : getD3 (.dct es) (.int (l.natAbs : Int)) (.int 0) = .ok (.int d) := by unfold getD3; simp only; rw [h]
  simp only [m_is_true, s0_is_true, s_mRet, s_m2, s_getV0, s_getVs, R.bind_ok, isDctR, s_aCons, s_aNil, s_on1, s_absI, abs_nat, s_cst, this, s_eqI, toS_ok]
theorem is_asg {v : Nat} (σ : Asg) {l : Int} (h : litOk v l) : f_is_true [.dct (madeL (asg v σ)), .int l] = .ok (.bl (lt σ l)) := by
  have := madeL_asg v σ l.natAbs
  rw [if_pos (show 1 ≤ l.natAbs ∧ l.natAbs ≤ v from h)] at this
  rw [fistrue _ l (sg σ l.natAbs) (by rw [this]; rfl)]
  congr 2
  rw [Bool.eq_iff_iff, decide_eq_true_iff, lt_sg (by have := h.1; omega)]
  exact eq_comm
theorem fheld {v : Nat} (σ : Asg) {c : List Int} (h : InR v c) (hl : c.length ≤ 1000) : f_held [.dct (madeL (asg v σ)), cD c] = .ok (.bl (ct σ c)) := by
  refine run_rt ?_
  show m_held [.fz (.dct (madeL (asg v σ))), .fz (cD c), .un] = _
  have e : mLc (.one 2) [2] (mItems (getV 1)) mYes e0_held [.fz (.dct (madeL (asg v σ))), .fz (cD c), .un] = .ok (c.map fun l => .bl (lt σ l)) :=
    mLc_map c D.int _ rfl (by have := big; omega) fun l hl => ⟨_, rfl, by simp [e0_held, wipeS, is_asg σ (h l hl)]⟩
  simp only [m_held, s0_held, s_mRet, s_aCons, s_aNil, e, R.bind_ok, s_on1, any_map, toS_ok]
  rfl
end DL
namespace DL
open PySem L2
theorem funlike (c : List Int) (hc : c.length ≤ 1000) : f_unlike [cD c] = .ok (cD (unlikeL c)) := by
  have hb := big
  refine run_rt ?_
  show m_unlike [.fz (cD c), .un, .un] = _
  refine seq_nx (S1 := [.fz (cD c), .ol [], .un]) (by simp [s0_unlike, limS]) ?_
  obtain ⟨S', e, x, rfl⟩ := loop_nx (t := .one 2) (body := b0_unlike) (xs := c) (S := [.fz (cD c), .ol [], .un]) D.int
    (fun pre S => ∃ x, S = [.fz (cD c), .ol ((unlikeL pre).map D.int), x]) (by
      rintro pre l post S hx ⟨x, rfl⟩
      have h1 : pre.length ≤ c.length := by rw [hx]; simp
      have h2 := len_unlikeL pre
      refine ⟨_, [.fz (cD c), .ol ((unlikeL (pre ++ [l])).map D.int), .fz (.int l)], rfl, .inl ?_, _, rfl⟩
      show b0_unlike [.fz (cD c), .ol ((unlikeL pre).map D.int), .fz (.int l)] = _
      rw [unlikeL_snoc]
      by_cases h : l ∈ unlikeL pre
      · simp [b0_unlike, notInD, in_lst, h]
      · rw [if_neg h]
        have e7 := mApp_eq (i := 1) (m := getF 2) (S := [.fz (cD c), .ol ((unlikeL pre).map D.int), .fz (.int l)]) (ds := (unlikeL pre).map D.int) (d := .int l) rfl rfl (by rw [List.length_map]; omega)
        simp [b0_unlike, notInD, in_lst, h, e7]) ⟨_, rfl⟩
  refine seq_nx (S1 := _) (show mFor _ _ _ _ = _ by
    rw [s_mFor]
    simp only [s_mItems, s_getF0, R.bind_ok, cD, s_itemsT, toSL_ok]
    exact e) ?_
  simp [s2_unlike, cD]

end DL
namespace DL
open PySem L2
/-! ### when_true -/
theorem fwhen {f : List (List Int)} (l : Int) (hf : f.length ≤ 1000) (hc : ∀ c ∈ f, c.length ≤ 1000) : f_when_true [fD f, .int l] = .ok (fD (whenL f l)) := by
  have hb := big
  refine run_rt ?_
  show s0_when_true [.fz (fD f), .fz (.int l), .un, .un] = _
  have e : mLc (.one 2) [2] (mItems (getV 0)) c0_when_true e1_when_true [.fz (fD f), .fz (.int l), .un, .un] = .ok ((f.filter fun c => !decide (l ∈ c)).map fun c => cD (c.filter fun x => !decide (x = -l))) := by
    refine mLc_eq f cD _ _ rfl (by omega) fun c hcf => ⟨_, rfl, by simp [c0_when_true, wipeS, notInD, cD, in_tup], fun _ => ?_⟩
    have e2 : mLc (.one 3) [3] (mItems (getV 2)) c1_when_true e0_when_true [.fz (fD f), .fz (.int l), .fz (cD c), .un] = .ok ((c.filter fun x => !decide (x = -l)).map D.int) :=
      mLc_eq c D.int D.int _ rfl (by have := hc c hcf; omega) fun x _ => ⟨_, rfl, by simp [c1_when_true, wipeS], fun _ => by simp [e0_when_true, wipeS]⟩
    simp only [e1_when_true, wipeS, List.set_cons_succ, List.set_cons_zero, s_aCons, e2, R.bind_ok, s_aNil, s_on1, s_tupL]
    rfl
  simp only [s0_when_true, s_mRet, e, R.bind_ok, toS_ok]
  unfold whenL fD
  rw [List.map_map]
  rfl
end DL
namespace DL
open PySem L2
/-! ### powers, names_of, joined_to -/
theorem fpowers {n : Nat} (hn : n ≤ 60) : f_powers [.int (n : Int)] = .ok (.int ((2 ^ n : Nat) : Int)) := by
  refine run_rt ?_
  show m_powers [.fz (.int (n : Int)), .un, .un] = _
  refine seq_nx (S1 := [.fz (.int (n : Int)), .fz (.int 1), .un]) (by simp [s0_powers]) ?_
  obtain ⟨S', e, x, rfl⟩ := loop_nx (t := .one 2) (body := b0_powers) (xs := List.range n) (S := [.fz (.int (n : Int)), .fz (.int 1), .un]) (fun i : Nat => D.int (i : Int))
    (fun pre S => ∃ x, S = [.fz (.int (n : Int)), .fz (.int ((2 ^ pre.length : Nat) : Int)), x]) (by
      rintro pre k post S hx ⟨x, rfl⟩
      refine ⟨_, [.fz (.int (n : Int)), .fz (.int ((2 ^ (pre ++ [k]).length : Nat) : Int)), .fz (.int (k : Int))], rfl, .inl ?_, _, rfl⟩
      show b0_powers [.fz (.int (n : Int)), .fz (.int ((2 ^ pre.length : Nat) : Int)), .fz (.int (k : Int))] = _
      rw [List.length_append, show [k].length = 1 from rfl, Nat.pow_succ]
      have e1 := mulR (i := ((2 ^ pre.length : Nat) : Int)) (j := 2) (by decide) (by decide)
      simp only [b0_powers, s_mSet, s_m2, s_getV0, s_getVs, s_cst, R.bind_ok, e1, toS_ok]
      rw [Int.natCast_mul]
      rfl) ⟨_, rfl⟩
  refine seq_nx (S1 := _) (show mFor _ _ _ _ = _ by
    rw [s_mFor]
    simp only [i0_powers, s_aCons, s_getV0, R.bind_ok, s_aNil, rng1_nat (q := n) (by omega), toSL_ok]
    exact e) ?_
  simp [s2_powers]
/-- a formula that is counted -/
structure okP (f : List (List Int)) : Prop where
  len : f.length ≤ 100
  cl : ∀ c ∈ f, c.length ≤ 20
  nz : ∀ c ∈ f, ∀ l ∈ c, l ≠ 0
  names : (unlikeL (absL (occ f))).length ≤ 20
theorem occ_len2 {g : List (List Int)} (h2 : ∀ c ∈ g, c.length ≤ 20) : (occ g).length ≤ 20 * g.length := by
  induction g with
  | nil => simp [occ]
  | cons c g ih =>
    have := ih fun d hd => h2 d (List.mem_cons_of_mem _ hd)
    have h3 := h2 c (List.mem_cons_self ..)
    unfold occ at *
    rw [List.flatten_cons, List.length_append, List.length_cons]
    omega
def namesI (f : List (List Int)) : List Int := srt (unlikeL (absL (occ f)))
theorem seenD_len (ls : List Int) : (seenD ls).length = (unlikeL ls).length := by unfold seenD; rw [List.length_map]
theorem occ_snoc (f : List (List Int)) (c : List Int) : occ (f ++ [c]) = occ f ++ c := by unfold occ; simp
theorem absL_app (a b : List Int) : absL (a ++ b) = absL a ++ absL b := by unfold absL; rw [List.map_append]
theorem unlike_sub {a b : List Int} (h : ∀ x ∈ a, x ∈ b) : (unlikeL a).length ≤ (unlikeL b).length :=
  len_sub (nodup_unlikeL a) fun l hl => (mem_unlikeL b l).mpr (h l ((mem_unlikeL a l).mp hl))
theorem fnames {f : List (List Int)} (ok : okP f) : f_names_of [fD f] = .ok (.lst ((namesI f).map D.int)) := by
  have hb := big
  refine run_rt ?_
  show m_names_of [.fz (fD f), .un, .un, .un] = _
  refine seq_nx (S1 := [.fz (fD f), .od [], .un, .un]) rfl ?_
  have ho := occ_len2 ok.cl
  have hl100 := ok.len
  obtain ⟨S', e, x, y, rfl⟩ := loop_nx (t := .one 2) (body := b1_names_of) (xs := f) (S := [.fz (fD f), .od [], .un, .un]) cD
    (fun pre S => ∃ x y, S = [.fz (fD f), .od (seenD (absL (occ pre))), x, y]) (by
      rintro pre c post S hx ⟨x, y, rfl⟩
      have hpre : (occ pre).length + c.length ≤ (occ f).length := by
        rw [hx]; unfold occ; simp
      obtain ⟨S2, e2, y2, rfl⟩ := loop_nx (t := .one 3) (body := b0_names_of) (xs := c) (S := [.fz (fD f), .od (seenD (absL (occ pre))), .fz (cD c), y]) D.int
        (fun done S => ∃ y, S = [.fz (fD f), .od (seenD (absL (occ pre ++ done))), .fz (cD c), y]) (by
          rintro done l rest S hy ⟨y, rfl⟩
          have hd : done.length ≤ c.length := by rw [hy]; simp
          refine ⟨_, [.fz (fD f), .od (seenD (absL (occ pre ++ (done ++ [l])))), .fz (cD c), .fz (.int l)], rfl, .inl ?_, _, rfl⟩
          show b0_names_of [.fz (fD f), .od (seenD (absL (occ pre ++ done))), .fz (cD c), .fz (.int l)] = _
          unfold b0_names_of mPut
          have h1 := len_unlikeL (absL (occ pre ++ done))
          have h2 := seenD_len (absL (occ pre ++ done))
          have h3 : (absL (occ pre ++ done)).length = (occ pre).length + done.length := by simp [absL]
          simp only [List.getElem?_cons_succ, List.getElem?_cons_zero, s_cst, toS_ok, s_aCons, s_getV0, s_getVs, R.bind_ok, s_aNil, s_on1, s_absI, abs_nat]
          rw [if_pos (by omega), ← List.append_assoc, absL_app _ [l], show absL [l] = [(l.natAbs : Int)] from rfl, seenD_snoc]
          rfl) ⟨_, by rw [List.append_nil]⟩
      refine ⟨_, [.fz (fD f), .od (seenD (absL (occ (pre ++ [c])))), .fz (cD c), y2], rfl, .inl ?_, _, _, rfl⟩
      show b1_names_of [.fz (fD f), .od (seenD (absL (occ pre))), .fz (cD c), y] = _
      unfold b1_names_of
      rw [s_mFor]
      simp only [s_mItems, s_getF0, s_getFs, R.bind_ok, itemsC, toSL_ok, e2]
      rw [occ_snoc]) ⟨_, _, rfl⟩
  refine seq_nx (S1 := _) (show mFor _ _ _ _ = _ by
    rw [s_mFor]
    simp only [s_mItems, s_getF0, R.bind_ok, itemsF, toSL_ok]
    exact e) ?_
  have hk : (seenD (absL (occ f))).map (·.1) = unlikeL (absL (occ f)) := by
    unfold seenD; rw [List.map_map]; exact List.map_id _
  have es : sortedD (.dct (seenD (absL (occ f)))) = .ok ((namesI f).map D.int) := by
    show (if (seenD (absL (occ f))).length < 64 then R.ok _ else R.bad) = _
    rw [if_pos (by rw [seenD_len]; have := ok.names; omega), hk]
    rfl
  simp only [s2_names_of, s_mRet, s_aCons, s_getV0d, s_getVs, R.bind_ok, s_aNil, s_onN, es, toS_ok]
end DL
namespace DL
open PySem L2
/-! ### joined_to -/
def partly (ls c : List Int) : Bool := ((absL c).any fun x => decide (x ∈ ls)) && !((absL c).all fun x => decide (x ∈ ls))
def joinStep (ls c : List Int) : List Int := if partly ls c = true then ls ++ absL c else ls
/-- one pass: what is joined; whether something came -/
def joinP (ls : List Int) : List (List Int) → List Int × Bool
  | [] => (ls, false)
  | c :: f => if partly ls c = true then ((joinP (ls ++ absL c) f).1, true) else joinP ls f
theorem joinP_no : ∀ (f : List (List Int)) (ls : List Int), (joinP ls f).2 = false → (joinP ls f).1 = ls ∧ ∀ c ∈ f, partly ls c = false
  | [], ls, _ => ⟨rfl, fun c h => by cases h⟩
  | c :: f, ls, h => by
    unfold joinP at h ⊢
    by_cases p : partly ls c = true
    · rw [if_pos p] at h; cases h
    · rw [if_neg p] at h ⊢
      obtain ⟨h1, h2⟩ := joinP_no f ls h
      refine ⟨h1, fun d hd => ?_⟩
      rcases List.mem_cons.mp hd with rfl | hd
      · simpa using p
      · exact h2 d hd
theorem joinP_sub : ∀ (f : List (List Int)) (ls : List Int), (∀ x ∈ ls, x ∈ (joinP ls f).1) ∧ ∀ x ∈ (joinP ls f).1, x ∈ ls ∨ x ∈ absL (occ f)
  | [], ls => ⟨fun x h => h, fun x h => .inl h⟩
  | c :: f, ls => by
    have e : occ (c :: f) = c ++ occ f := by unfold occ; rw [List.flatten_cons]
    unfold joinP
    rw [e, absL_app]
    by_cases p : partly ls c = true
    · rw [if_pos p]
      obtain ⟨h1, h2⟩ := joinP_sub f (ls ++ absL c)
      refine ⟨fun x hx => h1 x (List.mem_append.mpr (.inl hx)), fun x hx => ?_⟩
      rcases h2 x hx with h | h
      · rcases List.mem_append.mp h with h | h
        · exact .inl h
        · exact .inr (List.mem_append.mpr (.inl h))
      · exact .inr (List.mem_append.mpr (.inr h))
    · rw [if_neg p]
      obtain ⟨h1, h2⟩ := joinP_sub f ls
      exact ⟨h1, fun x hx => (h2 x hx).imp id fun h => List.mem_append.mpr (.inr h)⟩
theorem joinP_yes : ∀ (f : List (List Int)) (ls : List Int), (joinP ls f).2 = true → ∃ x ∈ absL (occ f), x ∉ ls ∧ x ∈ (joinP ls f).1
  | [], _, h => by cases h
  | c :: f, ls, h => by
    have e : occ (c :: f) = c ++ occ f := by unfold occ; rw [List.flatten_cons]
    unfold joinP at h ⊢
    rw [e, absL_app]
    by_cases p : partly ls c = true
    · rw [if_pos p]
      have q := p
      unfold partly at q
      rw [Bool.and_eq_true, Bool.not_eq_true', ← Bool.not_eq_true, List.all_eq_true] at q
      have : ∃ x ∈ absL c, x ∉ ls := by
        refine Classical.byContradiction fun z => q.2 fun x hx => ?_
        exact decide_eq_true (Classical.byContradiction fun y => z ⟨x, hx, y⟩)
      obtain ⟨x, hx, hn⟩ := this
      exact ⟨x, List.mem_append.mpr (.inl hx), hn, (joinP_sub f (ls ++ absL c)).1 x (List.mem_append.mpr (.inr hx))⟩
    · rw [if_neg p] at h ⊢
      obtain ⟨x, h1, h2, h3⟩ := joinP_yes f ls h
      exact ⟨x, List.mem_append.mpr (.inr h1), h2, h3⟩
def missN (N ls : List Int) : Nat := (N.filter fun x => !decide (x ∈ ls)).length
theorem miss_less {N ls ms : List Int} (h1 : ∀ x ∈ ls, x ∈ ms) {x : Int} (hN : x ∈ N) (h2 : x ∉ ls) (h3 : x ∈ ms) : missN N ms < missN N ls := by
  unfold missN
  induction N with
  | nil => cases hN
  | cons y N ih =>
    have mono : (N.filter fun x => !decide (x ∈ ms)).length ≤ (N.filter fun x => !decide (x ∈ ls)).length := by
      clear ih hN
      induction N with
      | nil => exact Nat.le_refl _
      | cons z N ih =>
        by_cases a : z ∈ ls
        · rw [List.filter_cons_of_neg (by simp [h1 z a]), List.filter_cons_of_neg (by simp [a])]; exact ih
        · rw [List.filter_cons_of_pos (p := fun x => !decide (x ∈ ls)) (by simp [a])]
          by_cases b : z ∈ ms
          · rw [List.filter_cons_of_neg (by simp [b])]; simp; omega
          · rw [List.filter_cons_of_pos (by simp [b])]; simp; omega
    rcases List.mem_cons.mp hN with rfl | hN
    · rw [List.filter_cons_of_neg (by simp [h3]), List.filter_cons_of_pos (p := fun x => !decide (x ∈ ls)) (by simp [h2])]
      simp; omega
    · have := ih hN
      by_cases a : y ∈ ls
      · rw [List.filter_cons_of_neg (by simp [h1 y a]), List.filter_cons_of_neg (by simp [a])]; exact this
      · rw [List.filter_cons_of_pos (p := fun x => !decide (x ∈ ls)) (by simp [a])]
        by_cases b : y ∈ ms
        · rw [List.filter_cons_of_neg (by simp [b])]; simp; omega
        · rw [List.filter_cons_of_pos (by simp [b])]; simp; omega
theorem small_len {f : List (List Int)} (ok : okP f) (n0 : Int) {ls : List Int} (h : ∀ x ∈ ls, x = n0 ∨ x ∈ absL (occ f)) : (unlikeL ls).length ≤ 21 := by
  have h1 : ∀ x ∈ unlikeL ls, x ∈ n0 :: unlikeL (absL (occ f)) := fun x hx => by
    rcases h x ((mem_unlikeL ls x).mp hx) with e | e
    · rw [e]; exact List.mem_cons_self ..
    · exact List.mem_cons_of_mem _ ((mem_unlikeL _ x).mpr e)
  have := len_sub (nodup_unlikeL ls) h1
  have := ok.names
  simp at *
  omega
theorem join_body {f : List (List Int)} (ok : okP f) (n0 : Int) {c : List Int} (hc : c ∈ f) {ls : List Int} (h : ∀ x ∈ ls, x = n0 ∨ x ∈ absL (occ f)) (st : Bool) (x5 x6 x7 : Sl) :
    ∃ y5 y6 y7, b1_joined_to [.fz (fD f), .fz (.int n0), .od (seenD ls), .fz (.bl st), .fz (cD c), x5, x6, x7] = .nx [.fz (fD f), .fz (.int n0), .od (seenD (joinStep ls c)), .fz (.bl (st || partly ls c)), .fz (cD c), y5, y6, y7] := by
  have hb := big
  have hcl := ok.cl c hc
  have el : mLc (.one 7) [7] (mItems (getV 4)) mYes e0_joined_to [.fz (fD f), .fz (.int n0), .od (seenD ls), .fz (.bl st), .fz (cD c), x5, x6, x7] = .ok ((absL c).map D.int) := by
    refine (mLc_map c D.int (fun l => D.int (if l < 0 then -l else l)) rfl (by omega) fun l _ => ⟨_, rfl, by simp [e0_joined_to, wipeS]⟩).trans (congrArg R.ok ?_)
    unfold absL
    rw [List.map_map]
    refine List.map_congr_left fun l _ => ?_
    simp only [Function.comp_def, abs_nat]
  have e1 : mLc (.one 6) [6] (mItems (getV 5)) mYes e1_joined_to [.fz (fD f), .fz (.int n0), .od (seenD ls), .fz (.bl st), .fz (cD c), .fz (.lst ((absL c).map D.int)), x6, x7] = .ok ((absL c).map fun x => .bl (decide (x ∈ unlikeL ls))) :=
    mLc_map (absL c) D.int _ rfl (by simp [absL]; omega) fun l _ => ⟨_, rfl, by simp [e1_joined_to, wipeS, seen_in]⟩
  have e2 : mLc (.one 6) [6] (mItems (getV 5)) mYes e2_joined_to [.fz (fD f), .fz (.int n0), .od (seenD ls), .fz (.bl st), .fz (cD c), .fz (.lst ((absL c).map D.int)), x6, x7] = .ok ((absL c).map fun x => .bl (decide (x ∈ unlikeL ls))) :=
    mLc_map (absL c) D.int _ rfl (by simp [absL]; omega) fun l _ => ⟨_, rfl, by simp [e2_joined_to, wipeS, seen_in]⟩
  have hmem : ∀ x, decide (x ∈ unlikeL ls) = decide (x ∈ ls) := fun x => by rw [decide_eq_decide]; exact mem_unlikeL ls x
  simp only [hmem] at e1 e2
  have hs5 : mSet 5 (fun S => ((mLc (.one 7) [7] (mItems (getV 4)) mYes e0_joined_to) S).bind fun ds => .ok (.lst ds)) [.fz (fD f), .fz (.int n0), .od (seenD ls), .fz (.bl st), .fz (cD c), x5, x6, x7] = .nx [.fz (fD f), .fz (.int n0), .od (seenD ls), .fz (.bl st), .fz (cD c), .fz (.lst ((absL c).map D.int)), x6, x7] := by
    simp only [s_mSet, el, R.bind_ok, toS_ok]; rfl
  cases hp : partly ls c with
  | false =>
    refine ⟨.fz (.lst ((absL c).map D.int)), x6, x7, seq_nx hs5 ?_⟩
    unfold joinStep
    rw [hp, if_neg (by decide), Bool.or_false]
    unfold partly at hp
    simp only [s_mIfS, s_tAnd2, s_tNot1, s_aCons, e1, e2, R.bind_ok, s_aNil, s_on1, any_map, all_map, s_trB]
    cases ha : (absL c).any fun x => decide (x ∈ ls) with
    | false => simp
    | true =>
      rw [ha, Bool.true_and, Bool.not_eq_false'] at hp
      simp [hp]
  | true =>
    obtain ⟨S', e3, y, rfl⟩ := loop_nx (t := .one 6) (body := b0_joined_to) (xs := absL c) (S := [.fz (fD f), .fz (.int n0), .od (seenD ls), .fz (.bl st), .fz (cD c), .fz (.lst ((absL c).map D.int)), x6, x7]) D.int
      (fun done S => ∃ y, S = [.fz (fD f), .fz (.int n0), .od (seenD (ls ++ done)), .fz (.bl st), .fz (cD c), .fz (.lst ((absL c).map D.int)), y, x7]) (by
        rintro done l rest S hy ⟨y, rfl⟩
        refine ⟨_, [.fz (fD f), .fz (.int n0), .od (seenD (ls ++ (done ++ [l]))), .fz (.bl st), .fz (cD c), .fz (.lst ((absL c).map D.int)), .fz (.int l), x7], rfl, .inl ?_, _, rfl⟩
        show b0_joined_to [.fz (fD f), .fz (.int n0), .od (seenD (ls ++ done)), .fz (.bl st), .fz (cD c), .fz (.lst ((absL c).map D.int)), .fz (.int l), x7] = _
        have hsm := small_len ok n0 (ls := ls ++ done) fun x hx => by
          rcases List.mem_append.mp hx with hx | hx
          · exact h x hx
          · right
            have hxc : x ∈ absL c := by rw [hy]; simp [hx]
            unfold absL at hxc ⊢
            obtain ⟨w, hw, e⟩ := List.mem_map.mp hxc
            exact List.mem_map.mpr ⟨w, mem_occ.mpr ⟨c, hc, hw⟩, e⟩
        unfold b0_joined_to mPut
        simp only [List.getElem?_cons_succ, List.getElem?_cons_zero, s_cst, toS_ok, s_getV0, s_getVs]
        rw [if_pos (by rw [seenD_len]; omega), ← List.append_assoc, seenD_snoc]
        rfl) ⟨_, by rw [List.append_nil]⟩
    refine ⟨.fz (.lst ((absL c).map D.int)), y, x7, seq_nx hs5 ?_⟩
    unfold joinStep
    rw [hp, if_pos rfl, Bool.or_true]
    have q := hp
    unfold partly at q
    rw [Bool.and_eq_true] at q
    simp only [s_mIfS, s_tAnd2, s_tNot1, s_aCons, e1, e2, R.bind_ok, s_aNil, s_on1, any_map, all_map, s_trB, q.1, q.2, if_true, toSL_ok]
    refine seq_nx (S1 := _) (show mFor _ _ _ _ = _ by
      rw [s_mFor]
      simp only [s_mItems, s_getF0, s_getFs, R.bind_ok, s_itemsL, toSL_ok]
      exact e3) ?_
    simp
theorem join_pass {f : List (List Int)} (ok : okP f) (n0 : Int) : ∀ (g : List (List Int)) (ls : List Int) (st : Bool) (x4 x5 x6 x7 : Sl), (∀ c ∈ g, c ∈ f) → (∀ x ∈ ls, x = n0 ∨ x ∈ absL (occ f)) →
    ∃ y4 y5 y6 y7, loopM (.one 4) b1_joined_to (g.map cD) [.fz (fD f), .fz (.int n0), .od (seenD ls), .fz (.bl st), x4, x5, x6, x7] = .nx [.fz (fD f), .fz (.int n0), .od (seenD (joinP ls g).1), .fz (.bl (st || (joinP ls g).2)), y4, y5, y6, y7]
  | [], ls, st, x4, x5, x6, x7, _, _ => ⟨x4, x5, x6, x7, by unfold joinP; rw [Bool.or_false]; rfl⟩
  | c :: g, ls, st, x4, x5, x6, x7, hg, h => by
    obtain ⟨y5, y6, y7, e⟩ := join_body ok n0 (hg c (List.mem_cons_self ..)) h st x5 x6 x7
    have h' : ∀ x ∈ joinStep ls c, x = n0 ∨ x ∈ absL (occ f) := by
      unfold joinStep
      split
      · intro x hx
        rcases List.mem_append.mp hx with hx | hx
        · exact h x hx
        · right
          unfold absL at hx ⊢
          obtain ⟨w, hw, e⟩ := List.mem_map.mp hx
          exact List.mem_map.mpr ⟨w, mem_occ.mpr ⟨c, hg c (List.mem_cons_self ..), hw⟩, e⟩
      · exact h
    obtain ⟨z4, z5, z6, z7, e2⟩ := join_pass ok n0 g (joinStep ls c) (st || partly ls c) (.fz (cD c)) y5 y6 y7 (fun d hd => hg d (List.mem_cons_of_mem _ hd)) h'
    refine ⟨z4, z5, z6, z7, ?_⟩
    rw [List.map_cons, loopM, put_one]
    simp only [List.set_cons_succ, List.set_cons_zero, e]
    rw [e2]
    have hj : joinP ls (c :: g) = ((joinP (joinStep ls c) g).1, partly ls c || (joinP (joinStep ls c) g).2) := by
      conv => lhs; unfold joinP
      unfold joinStep
      by_cases p : partly ls c = true
      · rw [if_pos p, if_pos p, p, Bool.true_or]
      · rw [if_neg p, if_neg p]
        rw [Bool.not_eq_true] at p
        rw [p, Bool.false_or]
    rw [hj, Bool.or_assoc]
theorem join_while {f : List (List Int)} (ok : okP f) (n0 : Int) : ∀ (n : Nat) (ls : List Int) (x4 x5 x6 x7 : Sl), (∀ x ∈ ls, x = n0 ∨ x ∈ absL (occ f)) → missN (unlikeL (absL (occ f))) ls + 1 < n →
    ∃ ms y4 y5 y6 y7, whileM t0_joined_to b2_joined_to n [.fz (fD f), .fz (.int n0), .od (seenD ls), .fz (.bl true), x4, x5, x6, x7] = .nx [.fz (fD f), .fz (.int n0), .od (seenD ms), .fz (.bl false), y4, y5, y6, y7] ∧
      (∀ x ∈ ls, x ∈ ms) ∧ (∀ x ∈ ms, x = n0 ∨ x ∈ absL (occ f)) ∧ ∀ c ∈ f, partly ms c = false
  | 0, _, _, _, _, _, _, h => by omega
  | n + 1, ls, x4, x5, x6, x7, h, hm => by
    obtain ⟨y4, y5, y6, y7, e⟩ := join_pass ok n0 f ls false x4 x5 x6 x7 (fun c hc => hc) h
    have eb : b2_joined_to [.fz (fD f), .fz (.int n0), .od (seenD ls), .fz (.bl true), x4, x5, x6, x7] = .nx [.fz (fD f), .fz (.int n0), .od (seenD (joinP ls f).1), .fz (.bl (joinP ls f).2), y4, y5, y6, y7] := by
      refine seq_nx (S1 := [.fz (fD f), .fz (.int n0), .od (seenD ls), .fz (.bl false), x4, x5, x6, x7]) (by simp) ?_
      rw [s_mFor]
      simp only [s_mItems, s_getF0, R.bind_ok, itemsF, toSL_ok]
      rw [e, Bool.false_or]
    obtain ⟨s1, s2⟩ := joinP_sub f ls
    have h' : ∀ x ∈ (joinP ls f).1, x = n0 ∨ x ∈ absL (occ f) := fun x hx => (s2 x hx).elim (h x) .inr
    unfold whileM
    rw [show t0_joined_to [.fz (fD f), .fz (.int n0), .od (seenD ls), .fz (.bl true), x4, x5, x6, x7] = .ok true by simp [t0_joined_to], toSL_ok, if_pos rfl, eb]
    simp only
    cases hq : (joinP ls f).2 with
    | false =>
      obtain ⟨j1, j2⟩ := joinP_no f ls hq
      rw [j1]
      refine ⟨ls, y4, y5, y6, y7, ?_, fun x hx => hx, h, j2⟩
      cases n with
      | zero => omega
      | succ n =>
        unfold whileM
        rw [show t0_joined_to [.fz (fD f), .fz (.int n0), .od (seenD ls), .fz (.bl false), y4, y5, y6, y7] = .ok false by simp [t0_joined_to], toSL_ok, if_neg (by decide)]
    | true =>
      obtain ⟨x, hx1, hx2, hx3⟩ := joinP_yes f ls hq
      have hl := miss_less (N := unlikeL (absL (occ f))) s1 ((mem_unlikeL _ x).mpr hx1) hx2 hx3
      obtain ⟨ms, z4, z5, z6, z7, e1, e2, e3, e4⟩ := join_while ok n0 n (joinP ls f).1 y4 y5 y6 y7 h' (by omega)
      exact ⟨ms, z4, z5, z6, z7, e1, fun x hx => e2 x (s1 x hx), e3, e4⟩
theorem fjoined {f : List (List Int)} (ok : okP f) (n0 : Int) : ∃ ms, f_joined_to [fD f, .int n0] = .ok (.dct (seenD ms)) ∧ n0 ∈ ms ∧ (∀ x ∈ ms, x = n0 ∨ x ∈ absL (occ f)) ∧ ∀ c ∈ f, partly ms c = false := by
  have hm : missN (unlikeL (absL (occ f))) [n0] + 1 < 1000 := by
    have := List.length_filter_le (fun x => !decide (x ∈ [n0])) (unlikeL (absL (occ f)))
    have := ok.names
    unfold missN
    omega
  obtain ⟨ms, y4, y5, y6, y7, e1, e2, e3, e4⟩ := join_while ok n0 1000 [n0] .un .un .un .un (fun x hx => .inl (by simpa using hx)) hm
  refine ⟨ms, run_rt ?_, e2 n0 (by simp), e3, e4⟩
  show m_joined_to [.fz (fD f), .fz (.int n0), .un, .un, .un, .un, .un, .un] = _
  refine seq_nx (S1 := [.fz (fD f), .fz (.int n0), .od (seenD [n0]), .un, .un, .un, .un, .un]) (by
    show mSetND 2 _ _ = _
    unfold mSetND mOne
    simp only [s_getV0, s_getVs, R.bind_ok, s_cst, toSL_ok]
    rfl) ?_
  refine seq_nx (S1 := [.fz (fD f), .fz (.int n0), .od (seenD [n0]), .fz (.bl true), .un, .un, .un, .un]) (by simp [s1_joined_to]) ?_
  refine seq_nx e1 ?_
  refine seq_nx (mFrz_d rfl) ?_
  simp [s3_joined_to]
end DL
/-! Counting by parts: no program in sight. -/
namespace DL
open PySem L2
def zA : Asg := fun _ => false
/-- c truths over the m variables of f make it true -/
def Cnt (f : List (List Int)) (c m : Nat) : Prop := ∃ vs : List Nat, vs.Nodup ∧ (∀ k, k ∈ vs ↔ 1 ≤ k ∧ occV f k) ∧ c = cntOn vs (fun σ => ft σ f) zA ∧ m = vs.length
theorem cnt_in {f : List (List Int)} {c m : Nat} (h : Cnt f c m) {ws : List Nat} (hn : ws.Nodup) (h1 : ∀ k ∈ ws, 1 ≤ k) (h2 : ∀ k, 1 ≤ k → occV f k → k ∈ ws) :
    m ≤ ws.length ∧ cntOn ws (fun σ => ft σ f) zA = c * 2 ^ (ws.length - m) := by
  obtain ⟨vs, v1, v2, rfl, rfl⟩ := h
  have hf : (ws.filter fun k => !decide (k ∈ vs)).Nodup := List.Pairwise.filter _ hn
  have hp : ws.Perm ((ws.filter fun k => !decide (k ∈ vs)) ++ vs) := by
    refine (List.perm_ext_iff_of_nodup hn ?_).mpr fun k => ?_
    · rw [List.nodup_append]
      refine ⟨hf, v1, fun a ha b hb e => ?_⟩
      have := (List.mem_filter.mp ha).2
      rw [e, decide_eq_true hb] at this
      cases this
    · rw [List.mem_append, List.mem_filter]
      constructor
      · intro hk
        by_cases c : k ∈ vs
        · exact .inr c
        · exact .inl ⟨hk, by rw [decide_eq_false c]; rfl⟩
      · rintro (hk | hk)
        · exact hk.1
        · obtain ⟨a, b⟩ := (v2 k).mp hk
          exact h2 k a b
  have hl := hp.length_eq
  rw [List.length_append] at hl
  refine ⟨by omega, ?_⟩
  rw [cnt_perm hp, cnt_frees (dep_ft f) _ _ _ fun v hv ho => ?_]
  · rw [Nat.mul_comm]
    congr 2
    omega
  · obtain ⟨a, b⟩ := List.mem_filter.mp hv
    have := (v2 v).mpr ⟨h1 v a, ho⟩
    rw [decide_eq_true this] at b
    cases b
theorem occV_when {f : List (List Int)} {l : Int} {k : Nat} (h : occV (whenL f l) k) : occV f k ∧ k ≠ l.natAbs := by
  rcases h with h | h
  · obtain ⟨a, b, c⟩ := occ_when h
    exact ⟨.inl a, by omega⟩
  · obtain ⟨a, b, c⟩ := occ_when h
    exact ⟨.inr a, by omega⟩
theorem count_step {f here apart : List (List Int)} {k0 : Nat} {T : List Nat} (hk0 : 1 ≤ k0) (hT : T.Nodup) (hT1 : ∀ k ∈ T, 1 ≤ k) (hk : k0 ∈ T) (hh : ∀ k, 1 ≤ k → occV here k → k ∈ T) (hTf : ∀ k ∈ T, occV f k)
    (ha : ∀ k, occV apart k → k ∉ T) (ho : ∀ k, occV f k ↔ occV here k ∨ occV apart k) (hft : ∀ σ, ft σ f = (ft σ here && ft σ apart)) (hz : ∀ c ∈ here, ∀ x ∈ c, x ≠ 0)
    {c1 m1 c2 m2 c3 m3 : Nat} (h1 : Cnt (whenL here (k0 : Int)) c1 m1) (h2 : Cnt (whenL here (-(k0 : Int))) c2 m2) (h3 : Cnt apart c3 m3) :
    m1 ≤ T.length - 1 ∧ m2 ≤ T.length - 1 ∧ ∀ vs : List Nat, vs.Nodup → (∀ k, k ∈ vs ↔ 1 ≤ k ∧ occV f k) → cntOn vs (fun σ => ft σ f) zA = (c1 * 2 ^ (T.length - 1 - m1) + c2 * 2 ^ (T.length - 1 - m2)) * c3 := by
  have hW : (T.erase k0).Nodup := hT.erase k0
  have hpT := List.perm_cons_erase hk
  have hWl : (T.erase k0).length = T.length - 1 := List.length_erase_of_mem hk
  have hWn : k0 ∉ T.erase k0 := by
    have := hpT.nodup_iff.mp hT
    exact (List.nodup_cons.mp this).1
  have memW : ∀ k, k ∈ T → k ≠ k0 → k ∈ T.erase k0 := fun k h n => (List.mem_erase_of_ne n).mpr h
  have g1 := cnt_in h1 hW (fun k h => hT1 k (List.mem_of_mem_erase h)) fun k h o => by
    obtain ⟨a, b⟩ := occV_when o
    exact memW k (hh k h a) (by omega)
  have g2 := cnt_in h2 hW (fun k h => hT1 k (List.mem_of_mem_erase h)) fun k h o => by
    obtain ⟨a, b⟩ := occV_when o
    exact memW k (hh k h a) (by omega)
  rw [hWl] at g1 g2
  refine ⟨g1.1, g2.1, fun vs v1 v2 => ?_⟩
  obtain ⟨us, u1, u2, rfl, rfl⟩ := h3
  have hp : vs.Perm (T ++ us) := by
    refine (List.perm_ext_iff_of_nodup v1 ?_).mpr fun k => ?_
    · rw [List.nodup_append]
      refine ⟨hT, u1, fun a ha' b hb e => ?_⟩
      subst e
      exact ha a ((u2 a).mp hb).2 ha'
    · rw [List.mem_append, v2, u2, ho]
      constructor
      · rintro ⟨a, b | b⟩
        · exact .inl (hh k a b)
        · exact .inr ⟨a, b⟩
      · rintro (h | h)
        · exact ⟨hT1 k h, (ho k).mp (hTf k h)⟩
        · exact ⟨h.1, .inr h.2⟩
  rw [cnt_perm hp, cnt_congr (Q := fun σ => ft σ here && ft σ apart) hft, cnt_prod (dep_ft here) (dep_ft apart) T us zA ?_ ?_, cnt_perm hpT, cnt_split hz hk0 _ _ hWn, g1.2, g2.2]
  · intro w hw hv
    obtain ⟨a, b⟩ := (u2 w).mp hw
    exact ha w b (hh w a hv)
  · intro v hv hu
    exact ha v hu hv
theorem cnt_none {f : List (List Int)} (h : [] ∈ f) {vs : List Nat} (v1 : vs.Nodup) (v2 : ∀ k, k ∈ vs ↔ 1 ≤ k ∧ occV f k) : Cnt f 0 vs.length := by
  refine ⟨vs, v1, v2, ?_, rfl⟩
  have : ∀ σ, ft σ f = false := fun σ => by
    unfold ft
    rw [← Bool.not_eq_true, List.all_eq_true]
    intro z
    have := z [] h
    cases this
  have gen : ∀ (vs : List Nat) (σ : Asg), cntOn vs (fun σ => ft σ f) σ = 0 := by
    intro vs
    induction vs with
    | nil => intro σ; unfold cntOn; simp [this]
    | cons v vs ih => intro σ; unfold cntOn; rw [ih, ih]
  exact (gen vs zA).symm
theorem cnt_empty : Cnt [] 1 0 := ⟨[], List.nodup_nil, fun k => by simp [occV, occ], rfl, rfl⟩
end DL
namespace DL
open PySem L2
/-! ### counted_part -/
theorem occ_map (f : List (List Int)) (x : Int) : x ∈ occ (f.map unlikeL) ↔ x ∈ occ f := by
  rw [mem_occ, mem_occ]
  constructor
  · rintro ⟨c, hc, hx⟩
    obtain ⟨d, hd, rfl⟩ := List.mem_map.mp hc
    exact ⟨d, hd, (mem_unlikeL d x).mp hx⟩
  · rintro ⟨c, hc, hx⟩
    exact ⟨unlikeL c, List.mem_map.mpr ⟨c, hc, rfl⟩, (mem_unlikeL c x).mpr hx⟩
theorem ft_map (σ : Asg) (f : List (List Int)) : ft σ (f.map unlikeL) = ft σ f := by
  unfold ft
  rw [List.all_map]
  congr 1
  funext c
  exact ct_unlikeL σ c
theorem cnt_map {f : List (List Int)} {c m : Nat} (h : Cnt (f.map unlikeL) c m) : Cnt f c m := by
  obtain ⟨vs, h1, h2, h3, h4⟩ := h
  refine ⟨vs, h1, fun k => ?_, ?_, h4⟩
  · rw [h2]
    unfold occV
    rw [occ_map, occ_map]
  · rw [h3]
    exact cnt_congr (fun σ => ft_map σ f) vs zA
theorem names_sub {f g : List (List Int)} (h : ∀ x ∈ occ g, x ∈ occ f) : (unlikeL (absL (occ g))).length ≤ (unlikeL (absL (occ f))).length :=
  unlike_sub fun x hx => by
    unfold absL at hx ⊢
    obtain ⟨w, hw, e⟩ := List.mem_map.mp hx
    exact List.mem_map.mpr ⟨w, h w hw, e⟩
theorem names_less {f g : List (List Int)} (h : ∀ x ∈ occ g, x ∈ occ f) {n0 : Int} (h1 : n0 ∈ absL (occ f)) (h2 : n0 ∉ absL (occ g)) : (unlikeL (absL (occ g))).length < (unlikeL (absL (occ f))).length := by
  have m0 : n0 ∈ unlikeL (absL (occ f)) := (mem_unlikeL _ _).mpr h1
  have := len_sub (a := unlikeL (absL (occ g))) (b := (unlikeL (absL (occ f))).erase n0) (nodup_unlikeL _) fun x hx => by
    have hx := (mem_unlikeL _ _).mp hx
    refine (List.mem_erase_of_ne (fun z : x = n0 => h2 (z ▸ hx))).mpr ((mem_unlikeL _ _).mpr ?_)
    unfold absL at hx ⊢
    obtain ⟨w, hw, e⟩ := List.mem_map.mp hx
    exact List.mem_map.mpr ⟨w, h w hw, e⟩
  rw [List.length_erase_of_mem m0] at this
  have := List.length_pos_of_mem m0
  omega
theorem okP_map {f : List (List Int)} (ok : okP f) : okP (f.map unlikeL) := by
  refine ⟨by rw [List.length_map]; exact ok.len, fun c hc => ?_, fun c hc l hl => ?_, ?_⟩
  · obtain ⟨d, hd, rfl⟩ := List.mem_map.mp hc
    exact Nat.le_trans (len_unlikeL d) (ok.cl d hd)
  · obtain ⟨d, hd, rfl⟩ := List.mem_map.mp hc
    exact ok.nz d hd l ((mem_unlikeL d l).mp hl)
  · exact Nat.le_trans (names_sub fun x hx => (occ_map f x).mp hx) ok.names
theorem okP_filter {f : List (List Int)} (ok : okP f) (p : List Int → Bool) : okP (f.filter p) := by
  refine ⟨Nat.le_trans (List.length_filter_le _ _) ok.len, fun c hc => ok.cl c (List.mem_filter.mp hc).1, fun c hc => ok.nz c (List.mem_filter.mp hc).1, ?_⟩
  refine Nat.le_trans (names_sub fun x hx => ?_) ok.names
  obtain ⟨c, hc, h⟩ := mem_occ.mp hx
  exact mem_occ.mpr ⟨c, (List.mem_filter.mp hc).1, h⟩
theorem okP_when {f : List (List Int)} (ok : okP f) (l : Int) : okP (whenL f l) := by
  refine ⟨?_, fun c hc => ?_, fun c hc x hx => ?_, ?_⟩
  · unfold whenL; rw [List.length_map]; exact Nat.le_trans (List.length_filter_le _ _) ok.len
  · obtain ⟨d, hd, rfl⟩ := List.mem_map.mp hc
    exact Nat.le_trans (List.length_filter_le _ _) (ok.cl d (List.mem_filter.mp hd).1)
  · obtain ⟨d, hd, rfl⟩ := List.mem_map.mp hc
    exact ok.nz d (List.mem_filter.mp hd).1 x (List.mem_filter.mp hx).1
  · exact Nat.le_trans (names_sub fun x hx => (occ_when hx).1) ok.names
theorem mem_namesI {f : List (List Int)} {x : Int} : x ∈ namesI f ↔ x ∈ absL (occ f) := by
  unfold namesI
  rw [(srt_perm _).mem_iff, mem_unlikeL]
theorem nodup_namesI (f : List (List Int)) : (namesI f).Nodup := (srt_perm _).nodup_iff.mpr (nodup_unlikeL _)
theorem len_namesI (f : List (List Int)) : (namesI f).length = (unlikeL (absL (occ f))).length := (srt_perm _).length_eq
/-- the names as numbers -/
def namesN (f : List (List Int)) : List Nat := (namesI f).map Int.toNat
theorem abs_pos {f : List (List Int)} (ok : okP f) {x : Int} (h : x ∈ absL (occ f)) : 1 ≤ x := by
  unfold absL at h
  obtain ⟨l, hl, rfl⟩ := List.mem_map.mp h
  obtain ⟨c, hc, h⟩ := mem_occ.mp hl
  have := ok.nz c hc l h
  omega
theorem mem_namesN {f : List (List Int)} (ok : okP f) (k : Nat) : k ∈ namesN f ↔ 1 ≤ k ∧ occV f k := by
  unfold namesN
  rw [List.mem_map]
  constructor
  · rintro ⟨x, hx, rfl⟩
    have hx := mem_namesI.mp hx
    have := abs_pos ok hx
    refine ⟨by omega, ?_⟩
    have e : ((x.toNat : Nat) : Int) = x := by omega
    exact mem_absL.mp (by rw [e]; exact hx)
  · rintro ⟨h1, h2⟩
    exact ⟨(k : Int), mem_namesI.mpr (mem_absL.mpr h2), by omega⟩
theorem nodup_toNat {ls : List Int} (h : ls.Nodup) (hp : ∀ x ∈ ls, 1 ≤ x) : (ls.map Int.toNat).Nodup := by
  induction ls with
  | nil => exact List.nodup_nil
  | cons x ls ih =>
    rw [List.nodup_cons] at h
    rw [List.map_cons, List.nodup_cons]
    refine ⟨fun z => ?_, ih h.2 fun y hy => hp y (List.mem_cons_of_mem _ hy)⟩
    obtain ⟨y, hy, e⟩ := List.mem_map.mp z
    have a := hp x (List.mem_cons_self ..)
    have b := hp y (List.mem_cons_of_mem _ hy)
    have : y = x := by omega
    exact h.1 (this ▸ hy)
theorem nodup_namesN {f : List (List Int)} (ok : okP f) : (namesN f).Nodup := nodup_toNat (nodup_namesI f) fun x hx => abs_pos ok (mem_namesI.mp hx)
end DL
namespace DL
open PySem L2
theorem partly_all {ms c : List Int} (h : partly ms c = false) {x : Int} (hx : x ∈ absL c) (hm : x ∈ ms) : ∀ y ∈ absL c, y ∈ ms := by
  unfold partly at h
  have : ((absL c).any fun x => decide (x ∈ ms)) = true := List.any_eq_true.mpr ⟨x, hx, decide_eq_true hm⟩
  rw [this, Bool.true_and, Bool.not_eq_false', List.all_eq_true] at h
  exact fun y hy => of_decide_eq_true (h y hy)
theorem fcounted_part : ∀ (n : Nat) (f : List (List Int)), okP f → (unlikeL (absL (occ f))).length < n → ∃ c m : Nat, f_counted_part n [fD f] = .ok (.tup [.int c, .int m]) ∧ Cnt f c m
  | 0, _, _, h => by omega
  | n + 1, f0, ok0, hn => by
    have hb := big
    have ok := okP_map ok0
    have hnm : (unlikeL (absL (occ (f0.map unlikeL)))).length < n + 1 := Nat.lt_of_le_of_lt (names_sub fun x hx => (occ_map f0 x).mp hx) hn
    have l2 : ∀ a b : D, lim [a, b] = .ok [a, b] := fun a b => limS (by simp)
    have e0 : s0_counted_part (f_counted_part n) [.fz (fD f0), .un, .un, .un, .un, .un, .un, .un, .un, .un] = .nx [.fz (fD (f0.map unlikeL)), .un, .un, .un, .un, .un, .un, .un, .un, .un] := by
      have el : mLc (.one 9) [9] (mItems (getV 0)) mYes (e0_counted_part (f_counted_part n)) [.fz (fD f0), .un, .un, .un, .un, .un, .un, .un, .un, .un] = .ok (f0.map fun c => cD (unlikeL c)) :=
        mLc_map f0 cD _ rfl (by have := ok0.len; omega) fun c hc => ⟨_, rfl, by simp [e0_counted_part, wipeS, funlike c (by have := ok0.cl c hc; omega)]⟩
      simp only [s0_counted_part, s_mSet, el, R.bind_ok, toS_ok]
      unfold fD
      rw [List.map_map]
      rfl
    have hback : ∀ c m : Nat, Cnt (f0.map unlikeL) c m → Cnt f0 c m := fun c m h => cnt_map h
    have hnd : ∀ c ∈ f0.map unlikeL, c.Nodup := fun c hc => by
      obtain ⟨d, _, rfl⟩ := List.mem_map.mp hc
      exact nodup_unlikeL d
    generalize f0.map unlikeL = f at *
    have en := fnames ok
    suffices ∃ c m : Nat, m_counted_part (f_counted_part n) [.fz (fD f0), .un, .un, .un, .un, .un, .un, .un, .un, .un] = .rt (.tup [.int c, .int m]) ∧ Cnt f c m by
      obtain ⟨c, m, h1, h2⟩ := this
      exact ⟨c, m, run_rt (show m_counted_part _ [.fz (fD f0), .un, .un, .un, .un, .un, .un, .un, .un, .un] = _ from h1), hback c m h2⟩
    have e1 : s1_counted_part (f_counted_part n) [.fz (fD f), .un, .un, .un, .un, .un, .un, .un, .un, .un] = .nx [.fz (fD f), .fz (.lst ((namesI f).map D.int)), .un, .un, .un, .un, .un, .un, .un, .un] := by
      simp [s1_counted_part, en]
    have hin := in_cls [] f
    rw [show cD [] = D.tup [] from rfl] at hin
    by_cases hE : [] ∈ f
    · refine ⟨0, (namesN f).length, seq_nx e0 (seq_nx e1 (seq_rt ?_)), cnt_none hE (nodup_namesN ok) (mem_namesN ok)⟩
      simp only [s2_counted_part, s_mIfS, s_m2, s_aLim, s_aNil, R.bind_ok, limS (ds := []) (by simp), s_getV0, s_getVs, hin, hE, decide_true, s_tBl, toSL_ok, if_true, s_mRet, s_aCons, s_cst, s_on1, s_lenL, l2, toS_ok]
      simp [namesN]
    have e2 : s2_counted_part (f_counted_part n) [.fz (fD f), .fz (.lst ((namesI f).map D.int)), .un, .un, .un, .un, .un, .un, .un, .un] = .nx [.fz (fD f), .fz (.lst ((namesI f).map D.int)), .un, .un, .un, .un, .un, .un, .un, .un] := by
      simp only [s2_counted_part, s_mIfS, s_m2, s_aLim, s_aNil, R.bind_ok, limS (ds := []) (by simp), s_getV0, s_getVs, hin, hE, decide_false, s_tBl, toSL_ok, s_mSkip]
      rfl
    cases hN : namesI f with
    | nil =>
      have hf : f = [] := by
        cases f with
        | nil => rfl
        | cons c f =>
          cases c with
          | nil => exact absurd (List.mem_cons_self ..) hE
          | cons l c =>
            have : (l.natAbs : Int) ∈ namesI ((l :: c) :: f) := mem_namesI.mpr (List.mem_map.mpr ⟨l, mem_occ.mpr ⟨_, List.mem_cons_self .., List.mem_cons_self ..⟩, rfl⟩)
            rw [hN] at this; cases this
      rw [hN] at e1 e2
      refine ⟨1, 0, seq_nx e0 (seq_nx e1 (seq_nx e2 (seq_rt ?_))), by rw [hf]; exact cnt_empty⟩
      simp [s3_counted_part, l2]
    | cons n0 ns =>
      have hn0 : n0 ∈ absL (occ f) := mem_namesI.mp (by rw [hN]; exact List.mem_cons_self ..)
      have hp0 := abs_pos ok hn0
      have e3 : s3_counted_part (f_counted_part n) [.fz (fD f), .fz (.lst ((namesI f).map D.int)), .un, .un, .un, .un, .un, .un, .un, .un] = .nx [.fz (fD f), .fz (.lst ((namesI f).map D.int)), .un, .un, .un, .un, .un, .un, .un, .un] := by
        rw [hN]; simp [s3_counted_part]
      have ei : atI ((namesI f).map D.int) 0 = some (.int n0) := by rw [hN]; exact atI_nat (j := 0) rfl
      obtain ⟨ms, ej, j1, j2, j3⟩ := fjoined ok n0
      have e4 : s4_counted_part (f_counted_part n) [.fz (fD f), .fz (.lst ((namesI f).map D.int)), .un, .un, .un, .un, .un, .un, .un, .un] = .nx [.fz (fD f), .fz (.lst ((namesI f).map D.int)), .fz (.dct (seenD ms)), .un, .un, .un, .un, .un, .un, .un] := by
        simp [s4_counted_part, ei, ej]
      have hdI : ∀ c ∈ f, ixD (cD c) (.int 0) = .ok (.int (c.headD 0)) := fun c hc => by
        cases c with
        | nil => exact absurd hc hE
        | cons l c => show optD (atI (D.int l :: c.map D.int) 0) = _; rw [show atI (D.int l :: c.map D.int) 0 = some (.int l) from atI_nat (j := 0) rfl]; rfl
      have hmem : ∀ x, decide (x ∈ unlikeL ms) = decide (x ∈ ms) := fun x => by rw [decide_eq_decide]; exact mem_unlikeL ms x
      have e5 : s5_counted_part (f_counted_part n) [.fz (fD f), .fz (.lst ((namesI f).map D.int)), .fz (.dct (seenD ms)), .un, .un, .un, .un, .un, .un, .un] = .nx [.fz (fD f), .fz (.lst ((namesI f).map D.int)), .fz (.dct (seenD ms)), .fz (fD (f.filter fun c => decide (((c.headD 0).natAbs : Int) ∈ ms))), .un, .un, .un, .un, .un, .un] := by
        have el : mLc (.one 9) [9] (mItems (getV 0)) (c0_counted_part (f_counted_part n)) (e1_counted_part (f_counted_part n)) [.fz (fD f), .fz (.lst ((namesI f).map D.int)), .fz (.dct (seenD ms)), .un, .un, .un, .un, .un, .un, .un] = .ok ((f.filter fun c => decide (((c.headD 0).natAbs : Int) ∈ ms)).map cD) :=
          mLc_eq f cD cD _ rfl (by have := ok.len; omega) fun c hc => ⟨_, rfl, by simp [c0_counted_part, wipeS, hdI c hc, abs_nat, seen_in, hmem], fun _ => by simp [e1_counted_part, wipeS]⟩
        simp only [s5_counted_part, s_mSet, el, R.bind_ok, toS_ok]; rfl
      have e6 : s6_counted_part (f_counted_part n) [.fz (fD f), .fz (.lst ((namesI f).map D.int)), .fz (.dct (seenD ms)), .fz (fD (f.filter fun c => decide (((c.headD 0).natAbs : Int) ∈ ms))), .un, .un, .un, .un, .un, .un] = .nx [.fz (fD f), .fz (.lst ((namesI f).map D.int)), .fz (.dct (seenD ms)), .fz (fD (f.filter fun c => decide (((c.headD 0).natAbs : Int) ∈ ms))), .fz (fD (f.filter fun c => !decide (((c.headD 0).natAbs : Int) ∈ ms))), .un, .un, .un, .un, .un] := by
        have el : mLc (.one 9) [9] (mItems (getV 0)) (c1_counted_part (f_counted_part n)) (e2_counted_part (f_counted_part n)) [.fz (fD f), .fz (.lst ((namesI f).map D.int)), .fz (.dct (seenD ms)), .fz (fD (f.filter fun c => decide (((c.headD 0).natAbs : Int) ∈ ms))), .un, .un, .un, .un, .un, .un] = .ok ((f.filter fun c => !decide (((c.headD 0).natAbs : Int) ∈ ms)).map cD) :=
          mLc_eq f cD cD _ rfl (by have := ok.len; omega) fun c hc => ⟨_, rfl, by simp [c1_counted_part, wipeS, notInD, hdI c hc, abs_nat, seen_in, hmem], fun _ => by simp [e2_counted_part, wipeS]⟩
        simp only [s6_counted_part, s_mSet, el, R.bind_ok, toS_ok]; rfl
      have hhd : ∀ c ∈ f, ((c.headD 0).natAbs : Int) ∈ absL c := fun c hc => by
        cases c with
        | nil => exact absurd hc hE
        | cons l c => exact List.mem_map.mpr ⟨l, List.mem_cons_self .., rfl⟩
      have hms1 : ∀ x ∈ ms, x ∈ absL (occ f) := fun x hx => (j2 x hx).elim (fun e => e ▸ hn0) id
      have hH : ∀ c ∈ f.filter (fun c => decide (((c.headD 0).natAbs : Int) ∈ ms)), ∀ y ∈ absL c, y ∈ ms := fun c hc => by
        obtain ⟨a, b⟩ := List.mem_filter.mp hc
        exact partly_all (j3 c a) (hhd c a) (of_decide_eq_true b)
      have hA : ∀ c ∈ f.filter (fun c => !decide (((c.headD 0).natAbs : Int) ∈ ms)), ∀ y ∈ absL c, y ∉ ms := fun c hc y hy hm => by
        obtain ⟨a, b⟩ := List.mem_filter.mp hc
        have := partly_all (j3 c a) hy hm _ (hhd c a)
        rw [decide_eq_true this] at b
        cases b
      have ho : ∀ x, x ∈ occ f ↔ x ∈ occ (f.filter fun c => decide (((c.headD 0).natAbs : Int) ∈ ms)) ∨ x ∈ occ (f.filter fun c => !decide (((c.headD 0).natAbs : Int) ∈ ms)) := fun x => by
        rw [mem_occ, mem_occ, mem_occ]
        constructor
        · rintro ⟨c, hc, hx⟩
          by_cases d : ((c.headD 0).natAbs : Int) ∈ ms
          · exact .inl ⟨c, List.mem_filter.mpr ⟨hc, decide_eq_true d⟩, hx⟩
          · exact .inr ⟨c, List.mem_filter.mpr ⟨hc, by rw [decide_eq_false d]; rfl⟩, hx⟩
        · rintro (⟨c, hc, hx⟩ | ⟨c, hc, hx⟩)
          · exact ⟨c, (List.mem_filter.mp hc).1, hx⟩
          · exact ⟨c, (List.mem_filter.mp hc).1, hx⟩
      have hft : ∀ σ, ft σ f = (ft σ (f.filter fun c => decide (((c.headD 0).natAbs : Int) ∈ ms)) && ft σ (f.filter fun c => !decide (((c.headD 0).natAbs : Int) ∈ ms))) := fun σ => by
        unfold ft
        rw [Bool.eq_iff_iff, Bool.and_eq_true, List.all_eq_true, List.all_eq_true, List.all_eq_true]
        constructor
        · intro h
          exact ⟨fun c hc => h c (List.mem_filter.mp hc).1, fun c hc => h c (List.mem_filter.mp hc).1⟩
        · rintro ⟨h1, h2⟩ c hc
          by_cases d : ((c.headD 0).natAbs : Int) ∈ ms
          · exact h1 c (List.mem_filter.mpr ⟨hc, decide_eq_true d⟩)
          · exact h2 c (List.mem_filter.mpr ⟨hc, by rw [decide_eq_false d]; rfl⟩)
      have okh := okP_filter ok (fun c => decide (((c.headD 0).natAbs : Int) ∈ ms))
      have oka := okP_filter ok (fun c => !decide (((c.headD 0).natAbs : Int) ∈ ms))
      generalize f.filter (fun c => decide (((c.headD 0).natAbs : Int) ∈ ms)) = fh at *
      generalize f.filter (fun c => !decide (((c.headD 0).natAbs : Int) ∈ ms)) = fa at *
      have inabs : ∀ {g : List (List Int)} {x : Int}, x ∈ absL (occ g) → ∃ c ∈ g, x ∈ absL c := fun {g x} h => by
        unfold absL at h
        obtain ⟨l, hl, rfl⟩ := List.mem_map.mp h
        obtain ⟨c, hc, hl⟩ := mem_occ.mp hl
        exact ⟨c, hc, List.mem_map.mpr ⟨l, hl, rfl⟩⟩
      have hna : n0 ∉ absL (occ fa) := fun h => by
        obtain ⟨c, hc, hx⟩ := inabs h
        exact hA c hc n0 hx j1
      obtain ⟨c3, m3, r3, q3⟩ := fcounted_part n fa oka (by
        have := names_less (f := f) (g := fa) (fun x hx => (ho x).mpr (.inr hx)) hn0 hna
        omega)
      have hw : ∀ l : Int, (l.natAbs : Int) = n0 → ∃ c m : Nat, f_counted_part n [fD (whenL fh l)] = .ok (.tup [.int c, .int m]) ∧ Cnt (whenL fh l) c m := fun l hl => by
        refine fcounted_part n (whenL fh l) (okP_when okh l) ?_
        have := names_less (f := f) (g := whenL fh l) (fun x hx => (ho x).mpr (.inl (occ_when hx).1)) hn0 fun h => by
          unfold absL at h
          obtain ⟨x, hx, e⟩ := List.mem_map.mp h
          obtain ⟨_, b, c⟩ := occ_when hx
          omega
        omega
      obtain ⟨c1, m1, r1, q1⟩ := hw n0 (by omega)
      obtain ⟨c2, m2, r2, q2⟩ := hw (-n0) (by omega)
      have ek : ((n0.toNat : Nat) : Int) = n0 := by omega
      have hmsp : ∀ x ∈ unlikeL ms, 1 ≤ x := fun x hx => abs_pos ok (hms1 x ((mem_unlikeL ms x).mp hx))
      have hmT : ∀ k : Nat, k ∈ (unlikeL ms).map Int.toNat ↔ (k : Int) ∈ ms := fun k => by
        rw [List.mem_map]
        constructor
        · rintro ⟨x, hx, rfl⟩
          have := hmsp x hx
          rw [show ((x.toNat : Nat) : Int) = x by omega]
          exact (mem_unlikeL ms x).mp hx
        · intro h
          exact ⟨(k : Int), (mem_unlikeL ms _).mpr h, by omega⟩
      obtain ⟨b1, b2, b3⟩ := count_step (f := f) (here := fh) (apart := fa) (k0 := n0.toNat) (T := (unlikeL ms).map Int.toNat) (by omega) (nodup_toNat (nodup_unlikeL ms) hmsp)
        (fun k hk => by obtain ⟨x, hx, rfl⟩ := List.mem_map.mp hk; have := hmsp x hx; omega) ((hmT _).mpr (by rw [ek]; exact j1))
        (fun k _ hk => by
          obtain ⟨c, hc, hx⟩ := inabs (mem_absL.mpr hk)
          exact (hmT k).mpr (hH c hc _ hx))
        (fun k hk => mem_absL.mp (hms1 _ ((hmT k).mp hk)))
        (fun k hk hm => by
          obtain ⟨c, hc, hx⟩ := inabs (mem_absL.mpr hk)
          exact hA c hc _ hx ((hmT k).mp hm))
        (fun k => by
          unfold occV
          rw [ho, ho]
          constructor
          · rintro ((h | h) | (h | h))
            · exact .inl (.inl h)
            · exact .inr (.inl h)
            · exact .inl (.inr h)
            · exact .inr (.inr h)
          · rintro ((h | h) | (h | h))
            · exact .inl (.inl h)
            · exact .inr (.inl h)
            · exact .inl (.inr h)
            · exact .inr (.inr h)) hft okh.nz (by rw [ek]; exact q1) (by rw [ek]; exact q2) q3
      have ht := small_len ok n0 j2
      rw [List.length_map] at b1 b2 b3
      generalize htt : (unlikeL ms).length = t at *
      have lenK : lenD (.dct (seenD ms)) = .ok (.int (t : Int)) := by rw [s_lenK, seenD_len, htt]
      have body : ∀ (l : Int) (c m tot : Nat) (x8 : Sl), f_counted_part n [fD (whenL fh l)] = .ok (.tup [.int c, .int m]) → m ≤ t - 1 → 1 ≤ t →
          b0_counted_part (f_counted_part n) [.fz (fD f), .fz (.lst ((namesI f).map D.int)), .fz (.dct (seenD ms)), .fz (fD fh), .fz (fD fa), .fz (.tup [.int c3, .int m3]), .fz (.int (tot : Int)), .fz (.int l), x8, .un] =
            .nx [.fz (fD f), .fz (.lst ((namesI f).map D.int)), .fz (.dct (seenD ms)), .fz (fD fh), .fz (fD fa), .fz (.tup [.int c3, .int m3]), .fz (.int ((tot + c * 2 ^ (t - 1 - m) : Nat) : Int)), .fz (.int l), .fz (.tup [.int c, .int m]), .un] := by
        intro l c m tot x8 hr hm ht1
        have ew := fwhen (f := fh) l (by have := okh.len; omega) (fun c hc => by have := okh.cl c hc; omega)
        refine seq_nx (S1 := [.fz (fD f), .fz (.lst ((namesI f).map D.int)), .fz (.dct (seenD ms)), .fz (fD fh), .fz (fD fa), .fz (.tup [.int c3, .int m3]), .fz (.int (tot : Int)), .fz (.int l), .fz (.tup [.int c, .int m]), .un]) (by simp [ew, hr]) ?_
        have g0 : ixD (.tup [.int (c : Int), .int (m : Int)]) (.int 0) = .ok (.int c) := rfl
        have g1 : ixD (.tup [.int (c : Int), .int (m : Int)]) (.int 1) = .ok (.int m) := rfl
        have e1 : ((t : Int) - 1 - (m : Int)) = ((t - 1 - m : Nat) : Int) := by omega
        have hp : 2 ^ (t - 1 - m) ≤ 2 ^ 21 := Nat.pow_le_pow_right (by decide) (by omega)
        have e2 := fpowers (n := t - 1 - m) (by omega)
        have e3 := mulR (i := (c : Int)) (j := ((2 ^ (t - 1 - m) : Nat) : Int)) (by have := Int.natCast_nonneg (2 ^ (t - 1 - m)); omega) (by
          have : ((2 ^ (t - 1 - m) : Nat) : Int) ≤ ((2 ^ 21 : Nat) : Int) := Int.ofNat_le.mpr hp
          exact Int.lt_of_le_of_lt this (by decide))
        simp only [s_mSet, s_m2, s_getV0, s_getVs, s_cst, R.bind_ok, g0, g1, s_aCons, s_aNil, s_on1, lenK, s_subI, e1, e2, e3, s_addI, toS_ok]
        rw [Int.natCast_add, Int.natCast_mul]
        rfl
      have ht1 : 1 ≤ t := by
        rw [← htt]
        exact List.length_pos_of_mem ((mem_unlikeL ms n0).mpr j1)
      refine ⟨(c1 * 2 ^ (t - 1 - m1) + c2 * 2 ^ (t - 1 - m2)) * c3, (namesN f).length, ?_, ⟨namesN f, nodup_namesN ok, mem_namesN ok, (b3 _ (nodup_namesN ok) (mem_namesN ok)).symm, rfl⟩⟩
      refine seq_nx e0 (seq_nx e1 (seq_nx e2 (seq_nx e3 (seq_nx e4 (seq_nx e5 (seq_nx e6 ?_))))))
      refine seq_nx (S1 := [.fz (fD f), .fz (.lst ((namesI f).map D.int)), .fz (.dct (seenD ms)), .fz (fD fh), .fz (fD fa), .fz (.tup [.int c3, .int m3]), .un, .un, .un, .un]) (by simp [s7_counted_part, r3]) ?_
      refine seq_nx (S1 := [.fz (fD f), .fz (.lst ((namesI f).map D.int)), .fz (.dct (seenD ms)), .fz (fD fh), .fz (fD fa), .fz (.tup [.int c3, .int m3]), .fz (.int ((0 : Nat) : Int)), .un, .un, .un]) (by simp [s8_counted_part]) ?_
      refine seq_nx (S1 := [.fz (fD f), .fz (.lst ((namesI f).map D.int)), .fz (.dct (seenD ms)), .fz (fD fh), .fz (fD fa), .fz (.tup [.int c3, .int m3]), .fz (.int ((0 + c1 * 2 ^ (t - 1 - m1) + c2 * 2 ^ (t - 1 - m2) : Nat) : Int)), .fz (.int (-n0)), .fz (.tup [.int c2, .int m2]), .un]) ?_ ?_
      · show mFor _ _ _ _ = _
        rw [s_mFor]
        simp only [s_mItems, s_aLim, s_aCons, s_m2, s_m1, s_getV0, s_getVs, s_cst, R.bind_ok, s_ixL, ei, s_optS, s_negI, s_aNil, l2, s_itemsT, toSL_ok, loopM, put_one, List.set_cons_succ, List.set_cons_zero]
        rw [body n0 c1 m1 0 .un r1 b1 ht1]
        simp only [List.set_cons_succ, List.set_cons_zero]
        rw [body (-n0) c2 m2 _ _ r2 b2 ht1]
      · have g0 : ixD (.tup [.int (c3 : Int), .int (m3 : Int)]) (.int 0) = .ok (.int c3) := rfl
        have hc3 : c3 ≤ 2 ^ 20 := by
          obtain ⟨us, u1, u2, rfl, rfl⟩ := q3
          refine Nat.le_trans (cnt_le us _ zA) (Nat.pow_le_pow_right (by decide) ?_)
          have hpm : us.Perm (namesN fa) := (List.perm_ext_iff_of_nodup u1 (nodup_namesN oka)).mpr fun k => by rw [u2, mem_namesN oka]
          rw [hpm.length_eq]
          unfold namesN
          rw [List.length_map, len_namesI]
          exact oka.names
        have e3' := mulR (i := ((0 + c1 * 2 ^ (t - 1 - m1) + c2 * 2 ^ (t - 1 - m2) : Nat) : Int)) (j := (c3 : Int)) (by omega) (by
          have : (c3 : Int) ≤ ((2 ^ 20 : Nat) : Int) := Int.ofNat_le.mpr hc3
          exact Int.lt_of_le_of_lt this (by decide))
        simp only [s10_counted_part, s_mRet, s_aLim, s_aCons, s_m2, s_getV0, s_getVs, s_cst, R.bind_ok, g0, e3', s_aNil, s_on1, s_lenL, l2, toS_ok]
        rw [Nat.zero_add, ← Int.natCast_mul]
        simp [namesN]
end DL
namespace DL
open PySem L2
/-! ### counted, satisfied -/
theorem fcounted {v : Nat} (hv : v ≤ 20) {f : List (List Int)} (ok : okP f) (hf : ∀ c ∈ f, InR v c) (hn : (unlikeL (absL (occ f))).length < 30) :
    f_counted [.int (v : Int), fD f] = .ok (.int ((cntOn (varN v) (fun σ => ft σ f) zA : Nat) : Int)) := by
  obtain ⟨c, m, h1, h2⟩ := fcounted_part 30 f ok hn
  have hin := cnt_in h2 (varN_nodup v) (fun k h => (mem_varN.mp h).1) fun k h o => by
    refine mem_varN.mpr ⟨h, ?_⟩
    rcases o with o | o
    · obtain ⟨d, hd, hx⟩ := mem_occ.mp o
      have := (hf d hd _ hx).2
      omega
    · obtain ⟨d, hd, hx⟩ := mem_occ.mp o
      have := (hf d hd _ hx).2
      omega
  have hl : (varN v).length = v := by simp [varN]
  rw [hl] at hin
  refine run_rt ?_
  show m_counted [.fz (.int (v : Int)), .fz (fD f), .un] = _
  refine seq_nx (S1 := [.fz (.int (v : Int)), .fz (fD f), .fz (.tup [.int c, .int m])]) (by simp [s0_counted, h1]) ?_
  have g0 : ixD (.tup [.int (c : Int), .int (m : Int)]) (.int 0) = .ok (.int c) := rfl
  have g1 : ixD (.tup [.int (c : Int), .int (m : Int)]) (.int 1) = .ok (.int m) := rfl
  have e1 : ((v : Int) - (m : Int)) = ((v - m : Nat) : Int) := by omega
  have e2 := fpowers (n := v - m) (by omega)
  have hp : 2 ^ (v - m) ≤ 2 ^ 21 := Nat.pow_le_pow_right (by decide) (by omega)
  have e3 := mulR (i := (c : Int)) (j := ((2 ^ (v - m) : Nat) : Int)) (by have := Int.natCast_nonneg (2 ^ (v - m)); omega) (by
    have : ((2 ^ (v - m) : Nat) : Int) ≤ ((2 ^ 21 : Nat) : Int) := Int.ofNat_le.mpr hp
    exact Int.lt_of_le_of_lt this (by decide))
  simp only [s1_counted, s_mRet, s_m2, s_getV0, s_getVs, s_cst, R.bind_ok, g0, g1, s_aCons, s_aNil, s_subI, e1, e2, e3, toS_ok]
  rw [hin.2, Int.natCast_mul]
end DL
namespace DL
open PySem L2
theorem fsatisfied {v : Nat} (hv : v ≤ 100) (σ : Asg) {f : List (List Int)} (hf : ∀ c ∈ f, InR v c) (hl : f.length ≤ 1000) (hc : ∀ c ∈ f, c.length ≤ 1000) (x : D) (hx : f_made [x] = .ok (.dct (madeL (asg v σ)))) : f_satisfied [fD f, x] = .ok (.bl (ft σ f)) := by
  refine run_rt ?_
  show m_satisfied [.fz (fD f), .fz x, .un, .un] = _
  refine seq_nx (S1 := [.fz (fD f), .fz x, .fz (.dct (madeL (asg v σ))), .un]) (by simp [s0_satisfied, hx]) ?_
  have e : mLc (.one 3) [3] (mItems (getV 0)) mYes e0_satisfied [.fz (fD f), .fz x, .fz (.dct (madeL (asg v σ))), .un] = .ok (f.map fun c => .bl (ct σ c)) :=
    mLc_map f cD _ rfl (by have := big; omega) fun c h => ⟨_, rfl, by simp [e0_satisfied, wipeS, fheld σ (hf c h) (hc c h)]⟩
  simp only [s1_satisfied, s_mRet, s_aCons, e, R.bind_ok, s_aNil, s_on1, all_map, toS_ok]
  rfl
end DL
namespace DL
open PySem L2
/-! ### all_models -/
/-- the signs from the last variable down -/
def downL (v n j : Nat) : List Int := (List.range j).map fun i => sg (ofS v n) (v - i)
theorem down_rev (v n : Nat) : (downL v n v).reverse = asg v (ofS v n) := by
  unfold downL asg
  refine List.ext_getElem (by simp) fun i h1 h2 => ?_
  simp at h1
  rw [List.getElem_reverse]
  simp only [List.getElem_map, List.getElem_range, List.length_map, List.length_range]
  congr 1
  omega
theorem fmade_t (m : List Int) (hm : m.length ≤ 1000) : f_made [cD m] = .ok (.dct (madeL m)) := by
  refine run_rt ?_
  show m_made [.fz (cD m), .un, .un] = _
  refine seq_nx (S1 := [.fz (cD m), .od [], .un]) rfl ?_
  obtain ⟨S', e, x, rfl⟩ := loop_nx (t := .one 2) (body := b0_made) (xs := m) (S := [.fz (cD m), .od [], .un]) D.int
    (fun pre S => ∃ x, S = [.fz (cD m), .od (madeL pre), x]) (by
      rintro pre l post S hx ⟨x, rfl⟩
      have h1 : pre.length ≤ m.length := by rw [hx]; simp
      have h2 := madeL_len pre
      refine ⟨_, _, rfl, .inl ?_, .fz (.int l), by rw [madeL_snoc]⟩
      show b0_made [.fz (cD m), .od (madeL pre), .fz (.int l)] = _
      unfold b0_made mPut
      simp only [List.getElem?_cons_succ, List.getElem?_cons_zero, s_getF0, s_getFs, toS_ok, s_aCons, s_getV0, s_getVs, R.bind_ok, s_aNil, s_on1, s_absI, abs_nat]
      rw [if_pos (by have := big; omega)]
      rfl) ⟨_, rfl⟩
  refine seq_nx (S1 := _) e ?_
  refine seq_nx (mFrz_d rfl) ?_
  simp [s2_made]
theorem down_loop {v : Nat} (hv : v ≤ 20) (n : Nat) (f most : D) (found : List D) (x : Sl) :
    ∃ x', mFor (.one 7) i1_all_models b0_all_models [.fz (.int (v : Int)), .fz f, .fz most, .ol found, .fz (.int n), .ol [], .fz (.int n), x] = .nx [.fz (.int (v : Int)), .fz f, .fz most, .ol found, .fz (.int n), .ol ((downL v n v).map D.int), .fz (.int ((n / 2 ^ v : Nat) : Int)), x'] := by
  obtain ⟨S', e, x', rfl⟩ := loop_nx (t := .one 7) (body := b0_all_models) (xs := List.range v) (S := [.fz (.int (v : Int)), .fz f, .fz most, .ol found, .fz (.int n), .ol [], .fz (.int n), x]) (fun i : Nat => D.int (i : Int))
    (fun pre S => ∃ x', S = [.fz (.int (v : Int)), .fz f, .fz most, .ol found, .fz (.int n), .ol ((downL v n pre.length).map D.int), .fz (.int ((n / 2 ^ pre.length : Nat) : Int)), x']) (by
      rintro pre k post S hx ⟨x', rfl⟩
      obtain ⟨hk, hkv⟩ := range_split hx
      rw [hk]
      refine ⟨_, [.fz (.int (v : Int)), .fz f, .fz most, .ol found, .fz (.int n), .ol ((downL v n (pre ++ [k]).length).map D.int), .fz (.int ((n / 2 ^ (pre ++ [k]).length : Nat) : Int)), .fz (.int k)], rfl, .inl ?_, .fz (.int (k : Int)), rfl⟩
      show b0_all_models [.fz (.int (v : Int)), .fz f, .fz most, .ol found, .fz (.int n), .ol ((downL v n k).map D.int), .fz (.int ((n / 2 ^ k : Nat) : Int)), .fz (.int (k : Int))] = _
      rw [List.length_append, hk, show [k].length = 1 from rfl]
      have ed : downL v n (k + 1) = downL v n k ++ [sg (ofS v n) (v - k)] := by unfold downL; rw [List.range_succ, List.map_append]; rfl
      have e8 : ((n / 2 ^ k : Nat) : Int) % 2 = ((n / 2 ^ k % 2 : Nat) : Int) := by norm_cast
      have e9 : ((n / 2 ^ k : Nat) : Int) / 2 = ((n / 2 ^ (k + 1) : Nat) : Int) := by rw [Nat.pow_succ, ← Nat.div_div_eq_div_mul]; norm_cast
      have e7 : sg (ofS v n) (v - k) = if n / 2 ^ k % 2 = 1 then (v : Int) - (k : Int) else -((v : Int) - (k : Int)) := by
        unfold sg ofS
        rw [show v - (v - k) = k by omega]
        simp only [decide_eq_true_eq]
        split <;> omega
      have e2 := fdivI (i := ((n / 2 ^ k : Nat) : Int)) (j := 2) (by decide) (by decide)
      have e3 := modI (i := ((n / 2 ^ k : Nat) : Int)) (j := 2) (by decide)
      rw [e8] at e3
      rw [e9] at e2
      refine seq_nx (mApp_eq (ds := (downL v n k).map D.int) (d := .int (sg (ofS v n) (v - k))) rfl ?_ (by simp [downL]; have := big; omega)) ?_
      · rw [e7]
        simp only [s_mIf, s_m2, s_getV0, s_getVs, s_cst, R.bind_ok, e3, s_eqI, s_tBl, s_m1, s_subI, s_negI, decide_eq_true_eq]
        have h34 : n / 2 ^ k % 2 = 0 ∨ n / 2 ^ k % 2 = 1 := by omega
        rcases h34 with h | h <;> rw [h] <;> rfl
      · simp only [List.set_cons_zero, List.set_cons_succ, s_mSet, s_m2, s_getV0, s_getVs, s_cst, R.bind_ok, e2, toS_ok]
        rw [ed, List.map_append]
        rfl) ⟨x, by simp [downL]⟩
  refine ⟨x', ?_⟩
  rw [s_mFor]
  simp only [i1_all_models, s_aCons, s_getV0, R.bind_ok, s_aNil, rng1_nat (q := v) (by omega), toSL_ok]
  rw [e, List.length_range]
end DL
namespace DL
open PySem L2
/-- the models among the first numbers -/
def modN (v : Nat) (f : List (List Int)) (n : Nat) : List (List Int) := ((List.range n).filter fun k => ft (ofS v k) f).map fun k => asg v (ofS v k)
theorem modN_succ (v : Nat) (f : List (List Int)) (n : Nat) : modN v f (n + 1) = modN v f n ++ if ft (ofS v n) f = true then [asg v (ofS v n)] else [] := by
  unfold modN
  rw [List.range_succ, List.filter_append, List.map_append]
  congr 1
  by_cases h : ft (ofS v n) f = true <;> simp [h]
theorem modN_all {v : Nat} {f : List (List Int)} (hf : ∀ c ∈ f, InR v c) : models v f = modN v f (2 ^ v) := by
  unfold models modN
  rw [List.filter_map]
  congr 1
  refine List.filter_congr fun n _ => ?_
  show (f.all fun c => c.any fun l => decide (l ∈ asg v (ofS v n))) = ft (ofS v n) f
  unfold ft
  rw [Bool.eq_iff_iff, List.all_eq_true, List.all_eq_true]
  constructor
  · intro q d hd; rw [← any_asg (hf d hd)]; exact q d hd
  · intro q d hd; rw [any_asg (hf d hd)]; exact q d hd
theorem modN_take {v : Nat} {f : List (List Int)} {n : Nat} : ∀ {m : Nat}, n ≤ m → (modN v f m).take (modN v f n).length = modN v f n
  | 0, h => by have : n = 0 := by omega
               subst this; rfl
  | m + 1, h => by
    by_cases e : n = m + 1
    · subst e; rw [List.take_length]
    · have ih := modN_take (v := v) (f := f) (n := n) (m := m) (by omega)
      have hl : (modN v f n).length ≤ (modN v f m).length := by
        have := congrArg List.length ih
        rw [List.length_take] at this
        omega
      rw [modN_succ, List.take_append_of_le_length hl, ih]
end DL
namespace DL
open PySem L2
theorem modN_len (v : Nat) (f : List (List Int)) (n : Nat) : (modN v f n).length ≤ n := by
  unfold modN
  rw [List.length_map]
  have := List.length_filter_le (fun k => ft (ofS v k) f) (List.range n)
  rw [List.length_range] at this
  exact this
theorem fall_models {v : Nat} (hv : v ≤ 11) {f : List (List Int)} (hf : ∀ c ∈ f, InR v c) (hl : f.length ≤ 1000) (hc : ∀ c ∈ f, c.length ≤ 1000) {most : Nat} (hm : 1 ≤ most) :
    f_all_models [.int (v : Int), fD f, .int (most : Int)] = .ok (fD ((models v f).take most)) := by
  have hb := big
  have hp : 2 ^ v ≤ 2 ^ 11 := Nat.pow_le_pow_right (by decide) hv
  have L := loop_rt (t := .one 4) (body := b1_all_models) (xs := List.range 4096) (S := [.fz (.int (v : Int)), .fz (fD f), .fz (.int (most : Int)), .ol [], .un, .un, .un, .un]) (fun i : Nat => D.int (i : Int))
    (fun pre S => (∃ a b c d, S = [.fz (.int (v : Int)), .fz (fD f), .fz (.int (most : Int)), .ol ((modN v f pre.length).map cD), a, b, c, d]) ∧ pre.length ≤ 2 ^ v ∧ (modN v f pre.length).length ≤ most)
    (fun pre n r => r = fD ((models v f).take most)) (by
      rintro pre n post S hx ⟨⟨a, b, c, d, rfl⟩, hpre, hlen⟩
      obtain ⟨hn, hn2⟩ := range_split hx
      rw [hn] at hpre hlen ⊢
      refine ⟨_, rfl, ?_⟩
      show (∃ S2, (b1_all_models [.fz (.int (v : Int)), .fz (fD f), .fz (.int (most : Int)), .ol ((modN v f n).map cD), .fz (.int (n : Int)), b, c, d] = _ ∨ _) ∧ _) ∨ ∃ r, b1_all_models [.fz (.int (v : Int)), .fz (fD f), .fz (.int (most : Int)), .ol ((modN v f n).map cD), .fz (.int (n : Int)), b, c, d] = _ ∧ _
      obtain ⟨x', ed⟩ := down_loop (v := v) (by omega) n (fD f) (.int (most : Int)) ((modN v f n).map cD) d
      have hnl := modN_len v f n
      have erev : mRev 5 [.fz (.int (v : Int)), .fz (fD f), .fz (.int (most : Int)), .ol ((modN v f n).map cD), .fz (.int (n : Int)), .ol ((downL v n v).map D.int), .fz (.int ((n / 2 ^ v : Nat) : Int)), x'] = .nx [.fz (.int (v : Int)), .fz (fD f), .fz (.int (most : Int)), .ol ((modN v f n).map cD), .fz (.int (n : Int)), .ol ((asg v (ofS v n)).map D.int), .fz (.int ((n / 2 ^ v : Nat) : Int)), x'] := by
        unfold mRev
        simp only [List.getElem?_cons_succ, List.getElem?_cons_zero, ← List.map_reverse, down_rev]
        rfl
      have step : ∀ r, (mSeq (mIfS (tOr2 (fun S => ((m2 gtD (getV 6) (cst (.int 0))) S).bind tBl) (fun S => ((m2 eqD (fun S => ((aCons (getV 3) aNil) S).bind (on1 lenD)) (getV 2)) S).bind tBl)) (mSeq (mFrz 3) (mRet (getF 3))) mSkip) (mIfS (fun S => ((fun S => ((aCons (getV 1) (aCons (getV 5) aNil)) S).bind fun xs => (f_satisfied xs).bind scalD) S).bind trD) (mApp 3 (fun S => ((aCons (getV 5) aNil) S).bind (on1 tupD))) mSkip))
          [.fz (.int (v : Int)), .fz (fD f), .fz (.int (most : Int)), .ol ((modN v f n).map cD), .fz (.int (n : Int)), .ol ((asg v (ofS v n)).map D.int), .fz (.int ((n / 2 ^ v : Nat) : Int)), x'] = r → b1_all_models [.fz (.int (v : Int)), .fz (fD f), .fz (.int (most : Int)), .ol ((modN v f n).map cD), .fz (.int (n : Int)), b, c, d] = r := by
        intro r hr
        refine seq_nx (S1 := [.fz (.int (v : Int)), .fz (fD f), .fz (.int (most : Int)), .ol ((modN v f n).map cD), .fz (.int (n : Int)), .ol [], c, d]) (by simp [lim0]) ?_
        refine seq_nx (S1 := [.fz (.int (v : Int)), .fz (fD f), .fz (.int (most : Int)), .ol ((modN v f n).map cD), .fz (.int (n : Int)), .ol [], .fz (.int (n : Int)), d]) (by simp) ?_
        exact seq_nx ed (seq_nx erev hr)
      have hm0 : decide (((modN v f n).length : Int) = (most : Int)) = decide ((modN v f n).length = most) := by rw [decide_eq_decide]; omega
      by_cases hend : n = 2 ^ v ∨ (modN v f n).length = most
      · refine .inr ⟨fD (modN v f n), step _ (seq_rt ?_), ?_⟩
        · have : (0 < ((n / 2 ^ v : Nat) : Int)) ∨ (modN v f n).length = most := by
            rcases hend with h | h
            · left
              rw [h, Nat.div_self (Nat.two_pow_pos v)]; decide
            · exact .inr h
          simp only [s_mIfS, s_tOr2, s_m2, s_getV0, s_getVs, s_cst, R.bind_ok, s_gtI, s_tBl, s_aCons, s_getV0l, s_aNil, s_on1, s_lenL, List.length_map, s_eqI, hm0]
          clear step erev ed
          generalize ((n / 2 ^ v : Nat) : Int) = z at *
          rcases this with h | h
          · simp [h, mFrz, fD]
          · by_cases h2 : 0 < z <;> simp [h, h2, mFrz, fD]
        · rw [modN_all hf]
          rcases hend with h | h
          · rw [← h, List.take_of_length_le hlen]
          · rw [← h, modN_take hpre]
      · have hlt : n < 2 ^ v := by omega
        have h0 : n / 2 ^ v = 0 := Nat.div_eq_of_lt hlt
        have es := fsatisfied (v := v) (by omega) (ofS v n) hf hl hc (.lst ((asg v (ofS v n)).map D.int)) (fmade _ (by rw [asg_len]; omega))
        have hq : ¬ (modN v f n).length = most := fun h => hend (.inr h)
        refine .inl ⟨[.fz (.int (v : Int)), .fz (fD f), .fz (.int (most : Int)), .ol ((modN v f (n + 1)).map cD), .fz (.int (n : Int)), .ol ((asg v (ofS v n)).map D.int), .fz (.int ((n / 2 ^ v : Nat) : Int)), x'], .inl (step _ ?_), ⟨⟨_, _, _, _, by rw [List.length_append, hn]; rfl⟩, by rw [List.length_append, hn]; exact hlt, ?_⟩⟩
        · refine seq_nx (S1 := [.fz (.int (v : Int)), .fz (fD f), .fz (.int (most : Int)), .ol ((modN v f n).map cD), .fz (.int (n : Int)), .ol ((asg v (ofS v n)).map D.int), .fz (.int ((n / 2 ^ v : Nat) : Int)), x']) ?_ ?_
          · simp only [s_mIfS, s_tOr2, s_m2, s_getV0, s_getVs, s_cst, R.bind_ok, s_gtI, s_tBl, s_aCons, s_getV0l, s_aNil, s_on1, s_lenL, List.length_map, s_eqI, hm0, h0]
            simp [hq]
          · simp only [s_mIfS, s_aCons, s_getV0, s_getVs, s_getV0l, R.bind_ok, s_aNil, es, scalD, s_trB, toSL_ok]
            rw [modN_succ]
            by_cases h : ft (ofS v n) f = true
            · rw [if_pos h, if_pos h, mApp_eq (ds := (modN v f n).map cD) (d := cD (asg v (ofS v n))) rfl (by simp [cD]) (by rw [List.length_map]; omega)]
              simp
            · rw [if_neg h, if_neg h]
              simp
        · rw [List.length_append, hn]
          show (modN v f (n + 1)).length ≤ most
          rw [modN_succ, List.length_append]
          split <;> simp <;> omega) ⟨⟨_, _, _, _, rfl⟩, by simp, by simp [modN]⟩
  have e0 : s1_all_models [.fz (.int (v : Int)), .fz (fD f), .fz (.int (most : Int)), .ol [], .un, .un, .un, .un] = loopM (.one 4) b1_all_models ((List.range 4096).map fun i : Nat => D.int (i : Int)) [.fz (.int (v : Int)), .fz (fD f), .fz (.int (most : Int)), .ol [], .un, .un, .un, .un] := by
    show mFor _ _ _ _ = _
    rw [s_mFor]
    have e1 : powD (.int 2) (.int 12) = .ok (.int ((4096 : Nat) : Int)) := powI (by decide) (by decide) (by decide)
    simp only [i0_all_models, s_aCons, s_m2, s_cst, R.bind_ok, e1, s_aNil, rng1_nat (q := 4096) (by decide), toSL_ok]
  refine run_rt ?_
  show m_all_models [.fz (.int (v : Int)), .fz (fD f), .fz (.int (most : Int)), .un, .un, .un, .un, .un] = _
  refine seq_nx (S1 := [.fz (.int (v : Int)), .fz (fD f), .fz (.int (most : Int)), .ol [], .un, .un, .un, .un]) (by simp [s0_all_models, lim0]) ?_
  rcases L with ⟨S', e, ⟨_, hpre, _⟩⟩ | ⟨pre, n, post, d, hx, e, q⟩
  · rw [List.length_range] at hpre
    exact absurd hpre (by omega)
  · subst q
    exact seq_rt (e0.trans e)
end DL
namespace DL
open PySem L2
theorem cutL_to {α : Type} (xs : List α) (m : Nat) : cutL xs none (some (m : Int)) = xs.take m := by
  unfold cutL
  rw [HT.sIx_none, HT.sIx_nat]
  simp only [List.drop_zero, Nat.sub_zero]
  by_cases h : m ≤ xs.length
  · rw [Nat.min_eq_left h]
  · rw [Nat.min_eq_right (by omega), List.take_of_length_le (Nat.le_refl _), List.take_of_length_le (by omega)]
theorem okP_of {v : Nat} (hv : v ≤ 20) {f : List (List Int)} (h1 : f.length ≤ 100) (h2 : ∀ c ∈ f, c.length ≤ 20) (h3 : ∀ c ∈ f, InR v c) : okP f := by
  refine ⟨h1, h2, fun c hc l hl => by have := (h3 c hc l hl).1; omega, ?_⟩
  have := len_sub' (a := unlikeL (absL (occ f))) (b := (varN v).map fun k : Nat => (k : Int)) (nodup_unlikeL _) fun x hx => by
    have hx := (mem_unlikeL _ _).mp hx
    unfold absL at hx
    obtain ⟨l, hl, rfl⟩ := List.mem_map.mp hx
    obtain ⟨c, hc, hl⟩ := mem_occ.mp hl
    exact List.mem_map.mpr ⟨l.natAbs, mem_varN.mpr (h3 c hc l hl), rfl⟩
  rw [List.length_map, show (varN v).length = v by simp [varN]] at this
  omega
end DL
namespace DL
open PySem L2
theorem f_law_true (ns : List Int) (hn : ns.length ≤ 63) : f_law [.scr ns] = .ok (.bl true) := by
  have hb := big
  obtain ⟨v, hv⟩ : ∃ v : Nat, fv ns 0 = (v : Int) := ⟨(fv ns 0).toNat, by have := fv_ok ns 0; omega⟩
  have hv4 : 1 ≤ v ∧ v ≤ 4 := by have := fv_ok ns 0; omega
  have hR : ∀ d ∈ fc ns 0, InR v d := by
    have := fc_ok ns 0
    rw [hv, Int.toNat_natCast] at this
    exact this
  have hL := fc_len ns 0
  have hC := fc_cl ns 0
  have ff := fformula ns 0
  rw [hv] at ff
  generalize fc ns 0 = f at *
  have hL2 : ∀ d ∈ f, d.length ≤ 1000 := fun d hd => Nat.le_trans (hC d hd) (by decide)
  have okp := okP_of (v := v) (f := f) (by omega) (by omega) (fun c hc => by have := hC c hc; omega) hR
  obtain ⟨most, hm, hm1, hm2⟩ : ∃ most : Nat, 1 + mixZ ns 60 % 20 = (most : Int) ∧ 1 ≤ most ∧ most ≤ 20 := by
    have h3 := md_lo (mixZ ns 60) (b := 20) (by decide)
    have h4 := md_hi (mixZ ns 60) (b := 20) (by decide)
    exact ⟨(1 + mixZ ns 60 % 20).toNat, by omega, by omega, by omega⟩
  have fm := fmodels (v := v) (f := f) (by omega) (by omega) hL2
  have fa := fall_models (v := v) (by omega) hR (by omega) hL2 hm1
  have fcn := fcounted (v := v) (by omega) okp hR (by have := okp.names; omega)
  rw [← models_cnt hR zA] at fcn
  have g0 : ixD (.tup [.int v, fD f]) (.int 0) = .ok (.int v) := rfl
  have g1 : ixD (.tup [.int v, fD f]) (.int 1) = .ok (fD f) := rfl
  have lf : lstD (fD f) = .ok (f.map cD) := rfl
  have df : D.lst (f.map cD) = fD f := rfl
  refine run_rt ?_
  show m_law [.fz (.scr ns), .un, .un, .un, .un, .un, .un, .un, .un, .un] = _
  refine seq_nx (S1 := [.fz (.scr ns), .fz (.tup [.int v, fD f]), .un, .un, .un, .un, .un, .un, .un, .un]) (by simp [s0_law, ff]) ?_
  refine seq_nx (S1 := [.fz (.scr ns), .fz (.tup [.int v, fD f]), .fz (.int (most : Int)), .un, .un, .un, .un, .un, .un, .un]) (by
    rw [← hm]; simp [s1_law, fmix, modI]) ?_
  refine seq_nx (S1 := [.fz (.scr ns), .fz (.tup [.int v, fD f]), .fz (.int (most : Int)), .fz (fD (models v f)), .un, .un, .un, .un, .un, .un]) (by
    simp only [s2_law, s_mSet, s_aCons, s_m2, s_getV0, s_getVs, s_cst, R.bind_ok, g0, g1, s_aNil, fm, toS_ok]; rfl) ?_
  refine seq_nx (S1 := [.fz (.scr ns), .fz (.tup [.int v, fD f]), .fz (.int (most : Int)), .fz (fD (models v f)), .fz (fD ((models v f).take most)), .un, .un, .un, .un, .un]) (by
    simp only [s3_law, s_mSet, s_aCons, s_m2, s_getV0, s_getVs, s_getF0, s_getFs, s_cst, R.bind_ok, g0, g1, s_aNil, s_onN, lf, df, fa, toS_ok]; rfl) ?_
  have i1 : isiD "list" (fD ((models v f).take most)) = .ok (.bl true) := isi_lst_list _
  have sl1 : slD none (some (most : Int)) (fD (models v f)) = .ok (fD ((models v f).take most)) := by
    show R.ok (D.lst (cutL _ _ _)) = _
    rw [cutL_to, ← List.map_take]; rfl
  refine seq_nx (S1 := [.fz (.scr ns), .fz (.tup [.int v, fD f]), .fz (.int (most : Int)), .fz (fD (models v f)), .fz (fD ((models v f).take most)), .un, .un, .un, .un, .un]) (by
    simp only [s4_law, s_mIfS, s_tOr2, s_tNot1, s_getV0, s_getVs, R.bind_ok, i1, s_trB, Bool.not_true, s_m2, s_mSl, s_oNo, s_oSome, s_toI, sl1, s_neD, eq_fD, decide_true, s_notD, s_tBl, toSL_ok, s_mSkip]; rfl) ?_
  have wh : ∀ i : Int, f__law_whole [.int i] = .ok (.bl true) := fun i => by
    simp [f__law_whole, runDef, m__law_whole, s0__law_whole]
  have hml : (models v f).length ≤ 32 := by
    have h1 := List.length_filter_le (fun m => f.all fun c => c.any fun l => decide (l ∈ m)) ((List.range (2 ^ v)).map fun n => asg v (ofS v n))
    have h2 : 2 ^ v ≤ 2 ^ 4 := Nat.pow_le_pow_right (by decide) hv4.2
    rw [List.length_map, List.length_range] at h1
    unfold models
    omega
  have htl : ∀ m ∈ (models v f).take most, m.length ≤ 4 := by
    intro m hm
    have hm := List.mem_of_mem_take hm
    unfold models at hm
    obtain ⟨n, _, rfl⟩ := List.mem_map.mp (List.mem_filter.mp hm).1
    rw [asg_len]; omega
  have htk : ((models v f).take most).length ≤ 32 := by rw [List.length_take]; omega
  generalize (models v f).take most = tk at *
  refine seq_nx (S1 := [.fz (.scr ns), .fz (.tup [.int v, fD f]), .fz (.int (most : Int)), .fz (fD (models v f)), .fz (fD tk), .un, .un, .un, .un, .un]) (by
    have e : mLc (.one 9) [9] (mItems (getV 4)) mYes e1_law [.fz (.scr ns), .fz (.tup [.int v, fD f]), .fz (.int (most : Int)), .fz (fD (models v f)), .fz (fD tk), .un, .un, .un, .un, .un] = .ok (tk.map fun _ => .bl true) := by
      refine mLc_map tk cD _ rfl (by omega) fun m hm => ⟨_, rfl, ?_⟩
      have i2 : isiD "tuple" (cD m) = .ok (.bl true) := isi_tup_tuple _
      have e2 : mLc (.one 7) [7] (mItems (getV 9)) mYes e0_law [.fz (.scr ns), .fz (.tup [.int v, fD f]), .fz (.int (most : Int)), .fz (fD (models v f)), .fz (fD tk), .un, .un, .un, .un, .fz (cD m)] = .ok (m.map fun _ => .bl true) :=
        mLc_map m D.int _ rfl (by have := htl m hm; omega) fun l hl => ⟨_, rfl, by simp [e0_law, wipeS, wh]⟩
      simp only [e1_law, wipeS, List.set_cons_zero, List.set_cons_succ, s_mAnd2, s_getV0, s_getVs, R.bind_ok, i2, s_trB, if_true, s_aCons, e2, s_aNil, s_on1, all_map]
      simp
    simp only [s5_law, s_mIfS, s_tNot1, s_aCons, e, R.bind_ok, s_aNil, s_on1, all_map, s_trB, toSL_ok]
    simp) ?_
  refine seq_nx (S1 := [.fz (.scr ns), .fz (.tup [.int v, fD f]), .fz (.int (most : Int)), .fz (fD (models v f)), .fz (fD tk), .fz (.int ((models v f).length : Int)), .un, .un, .un, .un]) (by
    simp only [s6_law, s_mSet, s_aCons, s_m2, s_getV0, s_getVs, s_getF0, s_getFs, s_cst, R.bind_ok, g0, g1, s_aNil, s_onN, lf, df, fcn, toS_ok]; rfl) ?_
  have lm : lenD (fD (models v f)) = .ok (.int ((models v f).length : Int)) := by
    show R.ok (D.int (((models v f).map cD).length : Int)) = _
    rw [List.length_map]
  refine seq_nx (S1 := [.fz (.scr ns), .fz (.tup [.int v, fD f]), .fz (.int (most : Int)), .fz (fD (models v f)), .fz (fD tk), .fz (.int ((models v f).length : Int)), .un, .un, .un, .un]) (by
    simp only [s7_law, s_mIfS, s_tOr2, s_tNot1, s_getV0, s_getVs, s_getF0, s_getFs, s_aCons, s_aNil, R.bind_ok, wh, s_trB, Bool.not_true, s_m2, s_on1, lm, s_neD, s_eqI, decide_true, s_notD, s_tBl, toSL_ok, s_mSkip]; rfl) ?_
  have fm0 := fmodels (v := v) (f := []) (by omega) (by simp) (by simp)
  have ef0 : fD [] = D.lst [] := rfl
  rw [ef0] at fm0
  have em0 : models v [] = (List.range (2 ^ v)).map fun n => asg v (ofS v n) := by
    unfold models
    rw [List.filter_eq_self.mpr]
    intro _ _; rfl
  rw [em0] at fm0
  refine seq_nx (S1 := [.fz (.scr ns), .fz (.tup [.int v, fD f]), .fz (.int (most : Int)), .fz (fD (models v f)), .fz (fD tk), .fz (.int ((models v f).length : Int)), .fz (.lst (((List.range (2 ^ v)).map fun n => asg v (ofS v n)).map cD)), .un, .un, .un]) (by
    simp only [s8_law, s_mSet, s_aCons, s_m2, s_getV0, s_getVs, s_getF0, s_getFs, s_cst, R.bind_ok, g0, g1, s_aNil, s_aLim, lim0, fm0, toS_ok]; rfl) ?_
  have hp1 := Nat.two_pow_pos v
  have h3 := md_lo (mixZ ns 61) (b := ((2 ^ v : Nat) : Int)) (by omega)
  have h4 := md_hi (mixZ ns 61) (b := ((2 ^ v : Nat) : Int)) (by omega)
  have eix : atI (((List.range (2 ^ v)).map fun n => asg v (ofS v n)).map cD) (mixZ ns 61 % ((2 ^ v : Nat) : Int)) = some (cD (asg v (ofS v (mixZ ns 61 % ((2 ^ v : Nat) : Int)).toNat))) := by
    rw [atI_lt h3 (by rw [List.length_map, List.length_map, List.length_range]; exact h4)]
    simp
  have eln : lenD (D.lst (((List.range (2 ^ v)).map fun n => asg v (ofS v n)).map cD)) = .ok (.int ((2 ^ v : Nat) : Int)) := by
    show R.ok (D.int ((((List.range (2 ^ v)).map fun n => asg v (ofS v n)).map cD).length : Int)) = _
    rw [List.length_map, List.length_map, List.length_range]
  have emod := modI (i := mixZ ns 61) (j := ((2 ^ v : Nat) : Int)) (by omega)
  generalize (mixZ ns 61 % ((2 ^ v : Nat) : Int)).toNat = k at *
  refine seq_nx (S1 := [.fz (.scr ns), .fz (.tup [.int v, fD f]), .fz (.int (most : Int)), .fz (fD (models v f)), .fz (fD tk), .fz (.int ((models v f).length : Int)), .fz (.lst (((List.range (2 ^ v)).map fun n => asg v (ofS v n)).map cD)), .fz (cD (asg v (ofS v k))), .un, .un]) (by
    simp only [s9_law, s_mSet, s_aCons, s_m2, s_getV0, s_getVs, s_getF0, s_getFs, s_cst, R.bind_ok, s_aNil, fmix, s_on1, eln, emod, s_ixL, eix, s_optS, toS_ok]; rfl) ?_
  have fs := fsatisfied (v := v) (by omega) (ofS v k) hR (by omega) hL2 (cD (asg v (ofS v k))) (fmade_t _ (by rw [asg_len]; omega))
  refine seq_nx (S1 := [.fz (.scr ns), .fz (.tup [.int v, fD f]), .fz (.int (most : Int)), .fz (fD (models v f)), .fz (fD tk), .fz (.int ((models v f).length : Int)), .fz (.lst (((List.range (2 ^ v)).map fun n => asg v (ofS v n)).map cD)), .fz (cD (asg v (ofS v k))), .fz (.bl (ft (ofS v k) f)), .un]) (by
    simp only [s10_law, s_mSet, s_aCons, s_m2, s_getV0, s_getVs, s_getF0, s_getFs, s_cst, R.bind_ok, g0, g1, s_aNil, fs, toS_ok]; rfl) ?_
  have em : decide (asg v (ofS v k) ∈ models v f) = ft (ofS v k) f := by
    have hft : (f.all fun c => c.any fun l => decide (l ∈ asg v (ofS v k))) = ft (ofS v k) f := by
      unfold ft
      rw [Bool.eq_iff_iff, List.all_eq_true, List.all_eq_true]
      constructor
      · intro q d hd; rw [← any_asg (hR d hd)]; exact q d hd
      · intro q d hd; rw [any_asg (hR d hd)]; exact q d hd
    rw [Bool.eq_iff_iff, decide_eq_true_iff]
    unfold models
    rw [List.mem_filter, hft]
    refine ⟨fun h => h.2, fun h => ⟨?_, h⟩⟩
    obtain ⟨n, hn, e⟩ := ofS_ex (ofS v k) v
    exact List.mem_map.mpr ⟨n, List.mem_range.mpr hn, asg_ext e⟩
  simp only [s11_law, s_mRet, s_mAnd2, s_getV0, s_getVs, R.bind_ok, isi_bl_bool, s_trB, if_true, s_m2, in_cls, em, s_eqB, decide_true, toS_ok]
end DL
namespace DL
open PySem L2
theorem all_mk {l : PySem.W.OpenLaw} {w : World} {K : PySem.W.Frag} {h : Heap} {mg : Str → Option Value} {fa : Addr} (X : K.In h) (Gn : h.Ns mainGlobals mg) (B : Blt mg) (G : Cst mg) (A0 : At K mg "is_true" (top 1) ["truths", "literal"]) (A1 : At K mg "unlike" (top 2) ["clause"]) (A2 : At K mg "held" (top 3) ["truths", "clause"]) (A3 : At K mg "made" (top 4) ["literals"]) (A4 : At K mg "satisfied" (top 5) ["clauses", "model"]) (A5 : At K mg "all_models" (top 7) ["variables", "clauses", "most"]) (A6 : At K mg "when_true" (top 9) ["clauses", "literal"]) (A7 : At K mg "powers" (top 11) ["many"]) (A8 : At K mg "names_of" (top 12) ["clauses"]) (A9 : At K mg "joined_to" (top 13) ["clauses", "first"]) (A10 : At K mg "counted_part" (top 14) ["clauses"]) (A11 : At K mg "counted" (top 15) ["variables", "clauses"]) (A12 : At K mg "_law_cell" (top 17) ["_law_script", "_law_k"]) (A13 : At K mg "_law_mix" (top 18) ["_law_script", "_law_k"]) (A14 : At K mg "_law_whole" (top 19) ["_law_found"]) (A15 : At K mg "_law_clause" (top 21) ["_law_script", "_law_base", "_law_variables", "_law_most"]) (A16 : At K mg "_law_formula" (top 22) ["_law_script", "_law_base"]) (A17 : At K mg "_law_models" (top 23) ["_law_variables", "_law_clauses"]) (AL : AtL K (top 24) "_law_script" fa) :
    ∃ fd : FuncData, (∀ (s : Shared) (u : Value), BindsTo s fd ⟨[u], []⟩ [("_law_script", u)]) ∧ ∀ base : Heap, K.In base → base.Ns mainGlobals mg → FnOk l.prog w K mg base (L2.CX l.prog w) 34 fa fd ["_law_script"] (spLaw K) := by
  obtain ⟨fdL, FL, bL⟩ := AL.ex
  obtain ⟨f0, fd0, F0, h0, b0⟩ := A0.ex
  obtain ⟨f1, fd1, F1, h1, b1⟩ := A1.ex
  obtain ⟨f2, fd2, F2, h2, b2⟩ := A2.ex
  obtain ⟨f3, fd3, F3, h3, b3⟩ := A3.ex
  obtain ⟨f4, fd4, F4, h4, b4⟩ := A4.ex
  obtain ⟨f5, fd5, F5, h5, b5⟩ := A5.ex
  obtain ⟨f6, fd6, F6, h6, b6⟩ := A6.ex
  obtain ⟨f7, fd7, F7, h7, b7⟩ := A7.ex
  obtain ⟨f8, fd8, F8, h8, b8⟩ := A8.ex
  obtain ⟨f9, fd9, F9, h9, b9⟩ := A9.ex
  obtain ⟨f10, fd10, F10, h10, b10⟩ := A10.ex
  obtain ⟨f11, fd11, F11, h11, b11⟩ := A11.ex
  obtain ⟨f12, fd12, F12, h12, b12⟩ := A12.ex
  obtain ⟨f13, fd13, F13, h13, b13⟩ := A13.ex
  obtain ⟨f14, fd14, F14, h14, b14⟩ := A14.ex
  obtain ⟨f15, fd15, F15, h15, b15⟩ := A15.ex
  obtain ⟨f16, fd16, F16, h16, b16⟩ := A16.ex
  obtain ⟨f17, fd17, F17, h17, b17⟩ := A17.ex
  refine ⟨fdL, bL, fun base _ _ => ?_⟩
  have C : CL := ⟨0, 0, 0, 0, 0⟩
  have D_is_true := ok_is_true (P := l.prog) (w := w) (base := base) (C := C) F0 h0 b0 B G 
  have D_unlike := ok_unlike (P := l.prog) (w := w) (base := base) (C := C) F1 h1 b1 B G 
  have D_held := ok_held (P := l.prog) (w := w) (base := base) (C := C) F2 h2 b2 B G D_is_true
  have D_made := ok_made (P := l.prog) (w := w) (base := base) (C := C) F3 h3 b3 B G 
  have D_satisfied := ok_satisfied (P := l.prog) (w := w) (base := base) (C := C) F4 h4 b4 B G D_made D_held
  have D_all_models := ok_all_models (P := l.prog) (w := w) (base := base) (C := C) F5 h5 b5 B G D_satisfied
  have D_when_true := ok_when_true (P := l.prog) (w := w) (base := base) (C := C) F6 h6 b6 B G 
  have D_powers := ok_powers (P := l.prog) (w := w) (base := base) (C := C) F7 h7 b7 B G 
  have D_names_of := ok_names_of (P := l.prog) (w := w) (base := base) (C := C) F8 h8 b8 B G 
  have D_joined_to := ok_joined_to (P := l.prog) (w := w) (base := base) (C := C) F9 h9 b9 B G 
  have D_counted_part := ok_counted_part (P := l.prog) (w := w) (base := base) (C := C) F10 h10 b10 B G D_unlike D_names_of D_joined_to D_when_true D_powers 30
  have D_counted := ok_counted (P := l.prog) (w := w) (base := base) (C := C) F11 h11 b11 B G D_counted_part D_powers
  have D__law_cell := ok__law_cell (P := l.prog) (w := w) (base := base) (C := C) F12 h12 b12 B G 
  have D__law_mix := ok__law_mix (P := l.prog) (w := w) (base := base) (C := C) F13 h13 b13 B G D__law_cell
  have D__law_whole := ok__law_whole (P := l.prog) (w := w) (base := base) (C := C) F14 h14 b14 B G 
  have D__law_clause := ok__law_clause (P := l.prog) (w := w) (base := base) (C := C) F15 h15 b15 B G D__law_mix
  have D__law_formula := ok__law_formula (P := l.prog) (w := w) (base := base) (C := C) F16 h16 b16 B G D__law_mix D__law_clause
  have D__law_models := ok__law_models (P := l.prog) (w := w) (base := base) (C := C) F17 h17 b17 B G 
  exact law_end (ok_law (P := l.prog) (w := w) (base := base) (C := C) FL B G D__law_formula D__law_mix D__law_models D_all_models D__law_whole D_counted D_satisfied) f_law_true
end DL
open PySem PySem.W PyProof.Rows
set_option maxRecDepth 100000 in
set_option maxHeartbeats 0 in
theorem PySem.Challenge.cw_clausekeep_k22_models_told_holds : PySem.Challenge.rw_clausekeep_k22_models_told.Holds := by
  w_on; o_law; k_head; (case hw => w_witness2)
  k_fill
  refine DL.law_walk (k := 34) (l := PySem.Challenge.rw_clausekeep_k22_models_told) (x := "_law_script") rfl rfl ⟨rfl, by decide, by decide⟩ (fun w h Y => PySem.W.kIn_of Y) ?F
  case F =>
    intro w mg fa h KX G hmg
    refine' DL.all_mk KX G (DL.blt_mk KX G ?z0 ?z1 ?z2 ?z3 ?z4 ?z5 ?z6 ?z7 ?z8 ?z9 ?z10 ?z11 ?z12 ?z13 ?z14 ?z15 ?z16 ?z17) ⟨True.intro⟩ (DL.at_mk KX G ?a0 ?l0 ?c_0 ?k0 (fun _ _ _ _ _ _ us hl => match us, hl with | [_, _], _ => rfl)) (DL.at_mk KX G ?a1 ?l1 ?c_1 ?k1 (fun _ _ _ _ _ _ us hl => match us, hl with | [_], _ => rfl)) (DL.at_mk KX G ?a2 ?l2 ?c_2 ?k2 (fun _ _ _ _ _ _ us hl => match us, hl with | [_, _], _ => rfl)) (DL.at_mk KX G ?a3 ?l3 ?c_3 ?k3 (fun _ _ _ _ _ _ us hl => match us, hl with | [_], _ => rfl)) (DL.at_mk KX G ?a4 ?l4 ?c_4 ?k4 (fun _ _ _ _ _ _ us hl => match us, hl with | [_, _], _ => rfl)) (DL.at_mk KX G ?a5 ?l5 ?c_5 ?k5 (fun _ _ _ _ _ _ us hl => match us, hl with | [_, _, _], _ => rfl)) (DL.at_mk KX G ?a6 ?l6 ?c_6 ?k6 (fun _ _ _ _ _ _ us hl => match us, hl with | [_, _], _ => rfl)) (DL.at_mk KX G ?a7 ?l7 ?c_7 ?k7 (fun _ _ _ _ _ _ us hl => match us, hl with | [_], _ => rfl)) (DL.at_mk KX G ?a8 ?l8 ?c_8 ?k8 (fun _ _ _ _ _ _ us hl => match us, hl with | [_], _ => rfl)) (DL.at_mk KX G ?a9 ?l9 ?c_9 ?k9 (fun _ _ _ _ _ _ us hl => match us, hl with | [_, _], _ => rfl)) (DL.at_mk KX G ?a10 ?l10 ?c_10 ?k10 (fun _ _ _ _ _ _ us hl => match us, hl with | [_], _ => rfl)) (DL.at_mk KX G ?a11 ?l11 ?c_11 ?k11 (fun _ _ _ _ _ _ us hl => match us, hl with | [_, _], _ => rfl)) (DL.at_mk KX G ?a12 ?l12 ?c_12 ?k12 (fun _ _ _ _ _ _ us hl => match us, hl with | [_, _], _ => rfl)) (DL.at_mk KX G ?a13 ?l13 ?c_13 ?k13 (fun _ _ _ _ _ _ us hl => match us, hl with | [_, _], _ => rfl)) (DL.at_mk KX G ?a14 ?l14 ?c_14 ?k14 (fun _ _ _ _ _ _ us hl => match us, hl with | [_], _ => rfl)) (DL.at_mk KX G ?a15 ?l15 ?c_15 ?k15 (fun _ _ _ _ _ _ us hl => match us, hl with | [_, _, _, _], _ => rfl)) (DL.at_mk KX G ?a16 ?l16 ?c_16 ?k16 (fun _ _ _ _ _ _ us hl => match us, hl with | [_, _], _ => rfl)) (DL.at_mk KX G ?a17 ?l17 ?c_17 ?k17 (fun _ _ _ _ _ _ us hl => match us, hl with | [_, _], _ => rfl)) (DL.atL_mk KX G hmg ?la ?ll ?lc ?lk (fun _ _ _ _ _ _ _ => rfl))
    (case z0 => k_is)
    (case z1 => k_is)
    (case z2 => k_is)
    (case z3 => k_is)
    (case z4 => k_is)
    (case z5 => k_is)
    (case z6 => k_is)
    (case z7 => k_is)
    (case z8 => k_is)
    (case z9 => k_is)
    (case z10 => k_is)
    (case z11 => k_is)
    (case z12 => k_is)
    (case z13 => k_is)
    (case z14 => k_is)
    (case z15 => k_is)
    (case z16 => k_is)
    (case z17 => k_is)
    (case a0 => k_is); (case l0 => k_is); (case c_0 => k_is); (case k0 => k_is)
    (case a1 => k_is); (case l1 => k_is); (case c_1 => k_is); (case k1 => k_is)
    (case a2 => k_is); (case l2 => k_is); (case c_2 => k_is); (case k2 => k_is)
    (case a3 => k_is); (case l3 => k_is); (case c_3 => k_is); (case k3 => k_is)
    (case a4 => k_is); (case l4 => k_is); (case c_4 => k_is); (case k4 => k_is)
    (case a5 => k_is); (case l5 => k_is); (case c_5 => k_is); (case k5 => k_is)
    (case a6 => k_is); (case l6 => k_is); (case c_6 => k_is); (case k6 => k_is)
    (case a7 => k_is); (case l7 => k_is); (case c_7 => k_is); (case k7 => k_is)
    (case a8 => k_is); (case l8 => k_is); (case c_8 => k_is); (case k8 => k_is)
    (case a9 => k_is); (case l9 => k_is); (case c_9 => k_is); (case k9 => k_is)
    (case a10 => k_is); (case l10 => k_is); (case c_10 => k_is); (case k10 => k_is)
    (case a11 => k_is); (case l11 => k_is); (case c_11 => k_is); (case k11 => k_is)
    (case a12 => k_is); (case l12 => k_is); (case c_12 => k_is); (case k12 => k_is)
    (case a13 => k_is); (case l13 => k_is); (case c_13 => k_is); (case k13 => k_is)
    (case a14 => k_is); (case l14 => k_is); (case c_14 => k_is); (case k14 => k_is)
    (case a15 => k_is); (case l15 => k_is); (case c_15 => k_is); (case k15 => k_is)
    (case a16 => k_is); (case l16 => k_is); (case c_16 => k_is); (case k16 => k_is)
    (case a17 => k_is); (case l17 => k_is); (case c_17 => k_is); (case k17 => k_is)
    (case la => k_is); (case ll => k_is); (case lc => k_is); (case lk => k_is)
