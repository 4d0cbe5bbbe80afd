import PyProof.Rows.All
import Wide.All
import OpenK.AllK
import Wide.FinOn
import HandS.ForMost
import HandS.ForExc
import HandS.TupAny
import HandS.TupMul
import HandS.Deep
import HandS.Style
import HandS.IsInst
import HandS.Text
import KE.DataCmp
import KE.DataMinMax
import KE.SortData
import HandS.Comp
import HandS.Zip
import HandS.Conv
import HandS.TupLen
import HandS.WordsDict
import PyProof.TupleOfSeq
import HandS.ExcValue
import KE.GoesEnum
import KE.GoesZip
import KE.GoesMore
import KE.GoesNew
import HandS.WordsExc
import HandS.Sort
import KE.KRevSl
import HandS.StrMore
import KE.DataAny
import PySem.Challenge.RW_scriptoria_k85_whole_waste_and_holes
set_option Elab.async false
set_option linter.all false
set_option maxRecDepth 100000
set_option maxHeartbeats 4000000
namespace PV
open PySem PySem.Spec PyProof.Rows L2

/-- plain data: what a Python value is, without addresses -/
inductive Val where
  | non | bl (b : Bool) | int (i : Int) | str (x : Str) | ty (n : String) | glo (a : Addr) | scr (is : List Int) | rng (lo hi : Int)
  | tup (vs : List Val) | lst (vs : List Val) | dK (kvs : List (Key × Val)) | dT (kvs : List (List Key × Val))
  deriving Inhabited

abbrev AP := Addr → Prop
/-- the script at a, or the same as one of the module's own objects -/
def ScrAt (K : PySem.W.Frag) (H : Hp) (A : AP) (a : Addr) (xs : List V) : Prop := (¬ A a ∧ ∃ o, H a = some (.frz o (.lst xs))) ∨
  ∃ (o : Obj) (its : Array Value) (n : Nat), K.lookup a = some o ∧ o.cls = .type "list" ∧ o.dict = none ∧ o.data = .seq its n ∧ its.size ≤ sizeLine ∧ Vals xs its.toList
theorem ScrAt.sq {K : PySem.W.Frag} {H : Hp} {A : AP} {a : Addr} {xs : List V} (h : ScrAt K H A a xs) : SqL K H a xs := h.elim (fun ⟨_, o, h⟩ => .inl (.inr ⟨o, h⟩)) .inr
mutual
def Rp (K : PySem.W.Frag) (H : Hp) (A : AP) : Val → V → Prop
  | .non, x => x = .non
  | .bl b, x => x = .bl b
  | .int i, x => x = .int i
  | .str s, x => x = .str s
  | .ty n, x => x = .ty n
  | .glo a, x => x = .ref a
  | .tup vs, x => ∃ a xs, x = .ref a ∧ ¬ A a ∧ H a = some (.tup xs) ∧ RpL K H A vs xs ∧ vs.length ≤ sizeLine
  | .scr is, x => ∃ a, x = .ref a ∧ ScrAt K H A a (is.map V.int)
  | .rng lo hi, x => ∃ a, x = .ref a ∧ ¬ A a ∧ H a = some (.rng lo hi)
  | .lst vs, x => ∃ a xs, x = .ref a ∧ ¬ A a ∧ H a = some (.lst xs) ∧ RpL K H A vs xs ∧ vs.length ≤ sizeLine
  | .dK kvs, x => ∃ a ks, x = .ref a ∧ ¬ A a ∧ Rd H a (.dK ks) ∧ RpK K H A kvs ks ∧ kvs.length ≤ sizeLine
  | .dT kvs, x => ∃ a ks, x = .ref a ∧ ¬ A a ∧ H a = some (.dT ks) ∧ RpT K H A kvs ks ∧ kvs.length ≤ sizeLine
def RpL (K : PySem.W.Frag) (H : Hp) (A : AP) : List Val → List V → Prop
  | [], xs => xs = []
  | v :: vs, xs => ∃ x r, xs = x :: r ∧ Rp K H A v x ∧ RpL K H A vs r
def RpK (K : PySem.W.Frag) (H : Hp) (A : AP) : List (Key × Val) → List (Key × V) → Prop
  | [], xs => xs = []
  | (k, v) :: vs, xs => ∃ x r, xs = (k, x) :: r ∧ Rp K H A v x ∧ RpK K H A vs r
def RpT (K : PySem.W.Frag) (H : Hp) (A : AP) : List (List Key × Val) → List (List Key × V) → Prop
  | [], xs => xs = []
  | (k, v) :: vs, xs => ∃ x r, xs = (k, x) :: r ∧ Rp K H A v x ∧ RpT K H A vs r
end

section
variable {K : PySem.W.Frag} {H H' : Hp} {A A' : AP}
/-- what a datum leans on is kept -/
def Stay (H : Hp) (A : AP) (H' : Hp) (A' : AP) : Prop := ∀ a o, H a = some o → ¬ A a → H' a = some o ∧ ¬ A' a
theorem Stay.rd (s : Stay H A H' A') {a : Addr} {u : HO} (r : Rd H a u) (n : ¬ A a) : Rd H' a u ∧ ¬ A' a := by
  rcases r with r | ⟨o, r⟩
  · exact ⟨.inl (s a _ r n).1, (s a _ r n).2⟩
  · exact ⟨.inr ⟨o, (s a _ r n).1⟩, (s a _ r n).2⟩
mutual
theorem Rp.stay (s : Stay H A H' A') : ∀ (v : Val) (x : V), Rp K H A v x → Rp K H' A' v x
  | .non, x, h => by unfold Rp at h ⊢; exact h
  | .bl _, x, h => by unfold Rp at h ⊢; exact h
  | .int _, x, h => by unfold Rp at h ⊢; exact h
  | .str _, x, h => by unfold Rp at h ⊢; exact h
  | .ty _, x, h => by unfold Rp at h ⊢; exact h
  | .glo _, x, h => by unfold Rp at h ⊢; exact h
  | .tup vs, x, h => by
    unfold Rp at h ⊢
    obtain ⟨a, xs, e, n, r, l, z⟩ := h
    exact ⟨a, xs, e, (s a _ r n).2, (s a _ r n).1, RpL.stay s vs xs l, z⟩
  | .scr is, x, h => by
    unfold Rp at h ⊢
    obtain ⟨a, e, h⟩ := h
    exact ⟨a, e, h.elim (fun ⟨n, o, r⟩ => .inl ⟨(s a _ r n).2, o, (s a _ r n).1⟩) .inr⟩
  | .rng _ _, x, h => by
    unfold Rp at h ⊢
    obtain ⟨a, e, n, r⟩ := h
    exact ⟨a, e, (s a _ r n).2, (s a _ r n).1⟩
  | .lst vs, x, h => by
    unfold Rp at h ⊢
    obtain ⟨a, xs, e, n, r, l, z⟩ := h
    exact ⟨a, xs, e, (s a _ r n).2, (s a _ r n).1, RpL.stay s vs xs l, z⟩
  | .dK vs, x, h => by
    unfold Rp at h ⊢
    obtain ⟨a, xs, e, n, r, l, z⟩ := h
    exact ⟨a, xs, e, (s.rd r n).2, (s.rd r n).1, RpK.stay s vs xs l, z⟩
  | .dT vs, x, h => by
    unfold Rp at h ⊢
    obtain ⟨a, xs, e, n, r, l, z⟩ := h
    exact ⟨a, xs, e, (s a _ r n).2, (s a _ r n).1, RpT.stay s vs xs l, z⟩
theorem RpL.stay (s : Stay H A H' A') : ∀ (vs : List Val) (xs : List V), RpL K H A vs xs → RpL K H' A' vs xs
  | [], xs, h => by unfold RpL at h ⊢; exact h
  | v :: vs, xs, h => by
    unfold RpL at h ⊢
    obtain ⟨x, r, e, h1, h2⟩ := h
    exact ⟨x, r, e, Rp.stay s v x h1, RpL.stay s vs r h2⟩
theorem RpK.stay (s : Stay H A H' A') : ∀ (vs : List (Key × Val)) (xs : List (Key × V)), RpK K H A vs xs → RpK K H' A' vs xs
  | [], xs, h => by unfold RpK at h ⊢; exact h
  | (k, v) :: vs, xs, h => by
    unfold RpK at h ⊢
    obtain ⟨x, r, e, h1, h2⟩ := h
    exact ⟨x, r, e, Rp.stay s v x h1, RpK.stay s vs r h2⟩
theorem RpT.stay (s : Stay H A H' A') : ∀ (vs : List (List Key × Val)) (xs : List (List Key × V)), RpT K H A vs xs → RpT K H' A' vs xs
  | [], xs, h => by unfold RpT at h ⊢; exact h
  | (k, v) :: vs, xs, h => by
    unfold RpT at h ⊢
    obtain ⟨x, r, e, h1, h2⟩ := h
    exact ⟨x, r, e, Rp.stay s v x h1, RpT.stay s vs r h2⟩
end
theorem rp_non {x : V} : Rp K H A .non x ↔ x = .non := by unfold Rp; rfl
theorem rp_bl {b : Bool} {x : V} : Rp K H A (.bl b) x ↔ x = .bl b := by unfold Rp; rfl
theorem rp_int {i : Int} {x : V} : Rp K H A (.int i) x ↔ x = .int i := by unfold Rp; rfl
theorem rp_str {i : Str} {x : V} : Rp K H A (.str i) x ↔ x = .str i := by unfold Rp; rfl
theorem rp_ty {i : String} {x : V} : Rp K H A (.ty i) x ↔ x = .ty i := by unfold Rp; rfl
theorem rp_glo {i : Addr} {x : V} : Rp K H A (.glo i) x ↔ x = .ref i := by unfold Rp; rfl
theorem rp_tup {vs : List Val} {x : V} : Rp K H A (.tup vs) x ↔ ∃ a xs, x = .ref a ∧ ¬ A a ∧ H a = some (.tup xs) ∧ RpL K H A vs xs ∧ vs.length ≤ sizeLine := by rw [Rp]
theorem rp_lst {vs : List Val} {x : V} : Rp K H A (.lst vs) x ↔ ∃ a xs, x = .ref a ∧ ¬ A a ∧ H a = some (.lst xs) ∧ RpL K H A vs xs ∧ vs.length ≤ sizeLine := by rw [Rp]
theorem rp_scr {is : List Int} {x : V} : Rp K H A (.scr is) x ↔ ∃ a, x = .ref a ∧ ScrAt K H A a (is.map V.int) := by rw [Rp]
theorem rp_rng {lo hi : Int} {x : V} : Rp K H A (.rng lo hi) x ↔ ∃ a, x = .ref a ∧ ¬ A a ∧ H a = some (.rng lo hi) := by rw [Rp]
theorem rp_dK {vs} {x : V} : Rp K H A (.dK vs) x ↔ ∃ a xs, x = .ref a ∧ ¬ A a ∧ Rd H a (.dK xs) ∧ RpK K H A vs xs ∧ vs.length ≤ sizeLine := by rw [Rp]
theorem rp_dT {vs} {x : V} : Rp K H A (.dT vs) x ↔ ∃ a xs, x = .ref a ∧ ¬ A a ∧ H a = some (.dT xs) ∧ RpT K H A vs xs ∧ vs.length ≤ sizeLine := by rw [Rp]
theorem rpl_nil {xs : List V} : RpL K H A [] xs ↔ xs = [] := by rw [RpL]
theorem rpl_cons {v : Val} {vs : List Val} {xs : List V} : RpL K H A (v :: vs) xs ↔ ∃ x r, xs = x :: r ∧ Rp K H A v x ∧ RpL K H A vs r := by rw [RpL]
theorem rpl_cc {v : Val} {vs : List Val} {x : V} {xs : List V} : RpL K H A (v :: vs) (x :: xs) ↔ Rp K H A v x ∧ RpL K H A vs xs := by
  rw [RpL]; constructor
  · rintro ⟨_, _, e, h1, h2⟩; cases e; exact ⟨h1, h2⟩
  · rintro ⟨h1, h2⟩; exact ⟨_, _, rfl, h1, h2⟩
theorem RpL.length : ∀ {vs : List Val} {xs : List V}, RpL K H A vs xs → xs.length = vs.length
  | [], xs, h => by rw [rpl_nil] at h; subst h; rfl
  | v :: vs, xs, h => by
    rw [rpl_cons] at h; obtain ⟨x, r, rfl, _, h2⟩ := h
    simp [RpL.length h2]
theorem RpL.get : ∀ {vs : List Val} {xs : List V} {i : Nat} {v : Val}, RpL K H A vs xs → vs[i]? = some v → ∃ x, xs[i]? = some x ∧ Rp K H A v x
  | [], xs, i, v, h, e => by simp at e
  | w :: vs, xs, i, v, h, e => by
    rw [rpl_cons] at h; obtain ⟨x, r, rfl, h1, h2⟩ := h
    cases i with
    | zero => simp at e; subst e; exact ⟨x, rfl, h1⟩
    | succ i => simp at e; exact RpL.get (i := i) h2 e |>.imp fun y hy => by simpa using hy
theorem RpL.get' : ∀ {vs : List Val} {xs : List V} {i : Nat} {x : V}, RpL K H A vs xs → xs[i]? = some x → ∃ v, vs[i]? = some v ∧ Rp K H A v x
  | [], xs, i, v, h, e => by rw [rpl_nil] at h; subst h; simp at e
  | w :: vs, xs, i, v, h, e => by
    rw [rpl_cons] at h; obtain ⟨x, r, rfl, h1, h2⟩ := h
    cases i with
    | zero => simp at e; subst e; exact ⟨w, rfl, h1⟩
    | succ i => simp at e; exact RpL.get' (i := i) h2 e |>.imp fun y hy => by simpa using hy
theorem RpL.append : ∀ {vs ws : List Val} {xs ys : List V}, RpL K H A vs xs → RpL K H A ws ys → RpL K H A (vs ++ ws) (xs ++ ys)
  | [], ws, xs, ys, h, q => by rw [rpl_nil] at h; subst h; simpa using q
  | v :: vs, ws, xs, ys, h, q => by
    rw [rpl_cons] at h; obtain ⟨x, r, rfl, h1, h2⟩ := h
    exact rpl_cc.mpr ⟨h1, RpL.append h2 q⟩
theorem RpL.set {w : Val} {y : V} (q : Rp K H A w y) : ∀ {vs : List Val} {xs : List V} (i : Nat), RpL K H A vs xs → RpL K H A (vs.set i w) (xs.set i y)
  | [], xs, i, h => by rw [rpl_nil] at h; subst h; simpa using rpl_nil.mpr rfl
  | v :: vs, xs, i, h => by
    rw [rpl_cons] at h; obtain ⟨x, r, rfl, h1, h2⟩ := h
    cases i with
    | zero => exact rpl_cc.mpr ⟨q, h2⟩
    | succ i => exact rpl_cc.mpr ⟨h1, RpL.set q i h2⟩
theorem RpL.take : ∀ {vs : List Val} {xs : List V} (i : Nat), RpL K H A vs xs → RpL K H A (vs.take i) (xs.take i)
  | [], xs, i, h => by rw [rpl_nil] at h; subst h; simpa using rpl_nil.mpr rfl
  | v :: vs, xs, i, h => by
    rw [rpl_cons] at h; obtain ⟨x, r, rfl, h1, h2⟩ := h
    cases i with
    | zero => simpa using rpl_nil.mpr rfl
    | succ i => exact rpl_cc.mpr ⟨h1, RpL.take i h2⟩
theorem RpL.drop : ∀ {vs : List Val} {xs : List V} (i : Nat), RpL K H A vs xs → RpL K H A (vs.drop i) (xs.drop i)
  | [], xs, i, h => by rw [rpl_nil] at h; subst h; simpa using rpl_nil.mpr rfl
  | v :: vs, xs, i, h => by
    rw [rpl_cons] at h; obtain ⟨x, r, rfl, h1, h2⟩ := h
    cases i with
    | zero => simpa using rpl_cc.mpr ⟨h1, h2⟩
    | succ i => simpa using RpL.drop i h2
theorem RpL.reverse : ∀ {vs : List Val} {xs : List V}, RpL K H A vs xs → RpL K H A vs.reverse xs.reverse
  | [], xs, h => by rw [rpl_nil] at h; subst h; simpa using rpl_nil.mpr rfl
  | v :: vs, xs, h => by
    rw [rpl_cons] at h; obtain ⟨x, r, rfl, h1, h2⟩ := h
    simp only [List.reverse_cons]
    exact RpL.append (RpL.reverse h2) (rpl_cc.mpr ⟨h1, rpl_nil.mpr rfl⟩)
theorem RpL.one {v : Val} {x : V} (h : Rp K H A v x) : RpL K H A [v] [x] := rpl_cc.mpr ⟨h, rpl_nil.mpr rfl⟩
theorem RpL.nil : RpL K H A [] [] := rpl_nil.mpr rfl
end

/-! ### what a name holds -/
inductive Slot where
  | emp | frz (v : Val) | own (v : Val)
  deriving Inhabited
abbrev EnvD := List Slot

inductive Res (α : Type) where
  | ok (a : α) | exc (c : Str) (p : Option (Str × Val)) | bad
  deriving Inhabited
@[inline] def Res.bind {α β : Type} : Res α → (α → Res β) → Res β
  | .ok a, f => f a
  | .exc c p, _ => .exc c p
  | .bad, _ => .bad
instance : Monad Res where
  pure := .ok
  bind := Res.bind
@[simp] theorem res_ok_bind {α β : Type} (a : α) (f : α → Res β) : (Res.ok a >>= f) = f a := rfl
@[simp] theorem res_exc_bind {α β : Type} (c p) (f : α → Res β) : ((Res.exc c p : Res α) >>= f) = .exc c p := rfl
@[simp] theorem res_bad_bind {α β : Type} (f : α → Res β) : ((Res.bad : Res α) >>= f) = .bad := rfl
@[simp] theorem res_pure {α : Type} (a : α) : (pure a : Res α) = .ok a := rfl

/-- the content of a container that is ours -/
def OwnAt (K : PySem.W.Frag) (H : Hp) (A : AP) (a : Addr) : Val → Prop
  | .lst vs => ∃ xs, H a = some (.lst xs) ∧ RpL K H A vs xs ∧ vs.length ≤ sizeLine
  | .dK kvs => ∃ xs, H a = some (.dK xs) ∧ RpK K H A kvs xs ∧ kvs.length ≤ sizeLine
  | .dT kvs => ∃ xs, H a = some (.dT xs) ∧ RpT K H A kvs xs ∧ kvs.length ≤ sizeLine
  | _ => False

abbrev or' (P M : AP) : AP := fun a => P a ∨ M a
def SlotOk (K : PySem.W.Frag) (H : Hp) (P M : AP) (σ : L2.St) (i : Nat) : Slot → Prop
  | .emp => True
  | .frz v => ∃ x, σ[i]? = some (some x) ∧ Rp K H (or' P M) v x
  | .own v => ∃ a, σ[i]? = some (some (.ref a)) ∧ M a ∧ OwnAt K H (or' P M) a v

structure RelEnv (K : PySem.W.Frag) (H : Hp) (P M : AP) (σ : L2.St) (env : EnvD) : Prop where
  len : env.length = σ.length
  slot : ∀ (i : Nat) (s : Slot), env[i]? = some s → SlotOk K H P M σ i s
  one : ∀ (i j : Nat) (a : Addr) (v w : Val), env[i]? = some (.own v) → env[j]? = some (.own w) → σ[i]? = some (some (.ref a)) → σ[j]? = some (some (.ref a)) → i = j
  mal : ∀ a, M a → H a ≠ none
  pal : ∀ a, P a → H a ≠ none
  pm : ∀ a, P a → M a → False

structure Ext (M : AP) (H : Hp) (M' : AP) (H' : Hp) : Prop where
  keep : ∀ a o, H a = some o → ¬ M a → H' a = some o
  mem : ∀ a, M' a → M a ∨ H a = none
  live : ∀ a, H a ≠ none → H' a ≠ none

section
variable {K : PySem.W.Frag} {H H1 H2 H' : Hp} {P M M1 M2 M' : AP} {σ : L2.St} {env env' : EnvD}
theorem Ext.refl : Ext M H M H := ⟨fun _ _ h _ => h, fun _ h => .inl h, fun _ h => h⟩
theorem Ext.trans (a : Ext M H M1 H1) (b : Ext M1 H1 M2 H2) : Ext M H M2 H2 where
  keep := fun c o h n => b.keep c o (a.keep c o h n) fun m => (a.mem c m).elim n fun z => by rw [h] at z; cases z
  mem := fun c m => (b.mem c m).elim (a.mem c) fun z => .inr (by
    cases q : H c with
    | none => rfl
    | some o => exact absurd z (a.live c (by rw [q]; simp)))
  live := fun c h => b.live c (a.live c h)
theorem Ext.stay (e : Ext M H M' H') (pal : ∀ a, P a → H a ≠ none) : Stay H (or' P M) H' (or' P M') := fun a o h n =>
  ⟨e.keep a o h fun m => n (.inr m), fun q => q.elim (fun p => n (.inl p)) fun m => (e.mem a m).elim (fun m => n (.inr m)) fun z => by rw [h] at z; cases z⟩
/-- fewer of ours -/
theorem Ext.less (h : ∀ a, M' a → M a) : Ext M H M' H := ⟨fun _ _ h _ => h, fun a m => .inl (h a m), fun _ h => h⟩
theorem Stay.less {A A' : AP} (h : ∀ a, A' a → A a) : Stay H A H A' := fun a o e n => ⟨e, fun q => n (h a q)⟩
/-- all that is tracked stays -/
theorem Ext.same (s : ∀ a o, H a = some o → H' a = some o) (m : ∀ a, M' a → M a ∨ H a = none) : Ext M H M' H' :=
  ⟨fun a o h _ => s a o h, m, fun a h => by
    cases q : H a with
    | none => exact absurd q h
    | some o => rw [s a o q]; simp⟩
theorem same_upd {p : Addr} {o : HO} (h : H p = none) : ∀ a u, H a = some u → upd H p o a = some u := fun a u e => by
  rw [upd_ne (ne_of_none e h)]; exact e
theorem Ext.new {p : Addr} {o : HO} (h : H p = none) : Ext M H M (upd H p o) := Ext.same (same_upd h) fun _ m => .inl m
theorem OwnAt.stay {A A' : AP} {a : Addr} (s : Stay H A H' A') (e : H' a = H a) : ∀ {v : Val}, OwnAt K H A a v → OwnAt K H' A' a v
  | .lst vs, ⟨xs, h, r, z⟩ => ⟨xs, e.trans h, RpL.stay s _ _ r, z⟩
  | .dK vs, ⟨xs, h, r, z⟩ => ⟨xs, e.trans h, RpK.stay s _ _ r, z⟩
  | .dT vs, ⟨xs, h, r, z⟩ => ⟨xs, e.trans h, RpT.stay s _ _ r, z⟩
theorem OwnAt.ne {A : AP} {a : Addr} : ∀ {v : Val}, OwnAt K H A a v → H a ≠ none
  | .lst vs, ⟨xs, h, r⟩ => by rw [h]; simp
  | .dK vs, ⟨xs, h, r⟩ => by rw [h]; simp
  | .dT vs, ⟨xs, h, r⟩ => by rw [h]; simp
/-- a container that is given up -/
theorem OwnAt.rp {A : AP} {a : Addr} (n : ¬ A a) : ∀ {v : Val}, OwnAt K H A a v → Rp K H A v (.ref a)
  | .lst vs, ⟨xs, h, r⟩ => rp_lst.mpr ⟨a, xs, rfl, n, h, r⟩
  | .dK vs, ⟨xs, h, r⟩ => rp_dK.mpr ⟨a, xs, rfl, n, .inl h, r⟩
  | .dT vs, ⟨xs, h, r⟩ => rp_dT.mpr ⟨a, xs, rfl, n, h, r⟩
/-- the names, where nothing of ours was written -/
theorem RelEnv.same (R : RelEnv K H P M σ env) (s : ∀ a o, H a = some o → H' a = some o) (m : ∀ a, M a → M' a) (x : Ext M H M' H') (mal : ∀ a, M' a → H' a ≠ none) : RelEnv K H' P M' σ env where
  len := R.len
  slot := fun i t e => by
    have q := R.slot i t e
    cases t with
    | emp => trivial
    | frz v => obtain ⟨x', e', r⟩ := q; exact ⟨x', e', Rp.stay (x.stay R.pal) _ _ r⟩
    | own v =>
      obtain ⟨a, e', ma, r⟩ := q
      have hn := r.ne
      cases ha : H a with
      | none => exact absurd ha hn
      | some o => exact ⟨a, e', m a ma, r.stay (x.stay R.pal) (by rw [s a o ha, ha])⟩
  one := R.one
  mal := mal
  pal := fun a p => x.live a (R.pal a p)
  pm := fun a p m' => (x.mem a m').elim (R.pm a p) (R.pal a p)
end
end PV

namespace PV
open PySem PySem.Spec PyProof.Rows L2

/-- a result: a datum at x; ours alone (o = true), or shared -/
def RpR (K : PySem.W.Frag) (H : Hp) (P M : AP) (σ : L2.St) (env : EnvD) (v : Val) (o : Bool) (x : V) : Prop :=
  match o with
  | true => ∃ a, x = .ref a ∧ M a ∧ OwnAt K H (or' P M) a v ∧ ∀ (i : Nat) (w : Val), env[i]? = some (.own w) → σ[i]? ≠ some (some (.ref a))
  | false => Rp K H (or' P M) v x
/-- an exception of the class that the module's name c holds -/
def XOk (K : PySem.W.Frag) (mg : Str → Option Value) (H : Hp) (A : AP) (c : Str) (p : Option (Str × Val)) (cls : Value) (dd : Option Addr) : Prop :=
  ∃ C, mg c = some (.ref C) ∧ cls = .ref C ∧ match p with
    | none => dd = none
    | some (f, v) => ∃ d x, dd = some d ∧ H d = some (.xd [(f, x)]) ∧ ¬ A d ∧ Rp K H A v x
end PV
namespace PV
open PySem PySem.Spec PyProof.Rows L2
/-- the fixed things of a def's body -/
structure Cfg where
  K : PySem.W.Frag
  mg : Str → Option Value
  P : AP
  E : XK
abbrev ER := Val × Bool × EnvD
abbrev ED := EnvD → Res ER
/-- what a wish asks of a result that was reckoned at (M, H) -/
def Post (G : Cfg) {α : Type} (M : AP) (H : Hp) (ok : α → AP → Hp → Prop) : Res α → Prop
  | .ok a => ∀ M' H', Ext M H M' H' → ok a M' H'
  | .exc c p => ∀ cls dd M' H', Ext M H M' H' → XOk G.K G.mg H' (or' G.P M') c p cls dd → G.E cls dd H'
  | .bad => False
theorem Post.mono {G : Cfg} {α : Type} {M M1 : AP} {H H1 : Hp} {ok : α → AP → Hp → Prop} {r : Res α} (h : Post G M H ok r) (e : Ext M H M1 H1) : Post G M1 H1 ok r := by
  cases r with
  | ok a => exact fun M' H' e' => h M' H' (e.trans e')
  | exc c p => exact fun cls dd M' H' e' x => h cls dd M' H' (e.trans e') x
  | bad => exact h
def okE (G : Cfg) (σ : L2.St) (Q : VK) : ER → AP → Hp → Prop := fun r M H =>
  RelEnv G.K H G.P M σ r.2.2 → ∀ x, RpR G.K H G.P M σ r.2.2 r.1 r.2.1 x → Q x H
def tE (G : Cfg) (d : ED) : TE := fun σ H Q => ∃ M env, RelEnv G.K H G.P M σ env ∧ Post G M H (okE G σ Q) (d env)

section
variable {G : Cfg} {M M' : AP} {H H' : Hp} {σ : L2.St} {env env' : EnvD} {Q : VK} {v : Val} {o : Bool} {x : V}
/-- what is ours is given up -/
theorem RpR.give (R : RelEnv G.K H G.P M σ env) (r : RpR G.K H G.P M σ env v o x) : ∃ M', Ext M H M' H ∧ RelEnv G.K H G.P M' σ env ∧ Rp G.K H (or' G.P M') v x := by
  cases o with
  | false => exact ⟨M, .refl, R, r⟩
  | true =>
    obtain ⟨a, rfl, ma, ow, no⟩ := r
    have sub : ∀ b, (M b ∧ b ≠ a) → M b := fun b h => h.1
    have st : Stay H (or' G.P M) H (or' G.P (fun b => M b ∧ b ≠ a)) := Stay.less fun b q => q.elim .inl fun m => .inr m.1
    refine ⟨fun b => M b ∧ b ≠ a, Ext.less sub, ⟨R.len, fun i t e => ?_, R.one, fun b m => R.mal b m.1, R.pal, fun b p m => R.pm b p m.1⟩, ?_⟩
    · have q := R.slot i t e
      cases t with
      | emp => trivial
      | frz w => obtain ⟨y, e', r⟩ := q; exact ⟨y, e', Rp.stay st _ _ r⟩
      | own w =>
        obtain ⟨b, e', mb, r⟩ := q
        refine ⟨b, e', ⟨mb, fun z => ?_⟩, r.stay st rfl⟩
        subst z
        exact no i w e e'
    · have := ow.stay (A' := or' G.P (fun b => M b ∧ b ≠ a)) st rfl
      exact this.rp fun q => q.elim (fun p => R.pm a p ma) fun m => m.2 rfl

theorem Post.bindE {α : Type} {ok : α → AP → Hp → Prop} {f : ER → Res α} {d : ED} {B : VK} (R : RelEnv G.K H G.P M σ env) (h : Post G M H ok (d env >>= f))
    (k : ∀ v o env' x M' H', Ext M H M' H' → RelEnv G.K H' G.P M' σ env' → RpR G.K H' G.P M' σ env' v o x → Post G M' H' ok (f (v, o, env')) → B x H') : tE G d σ H B := by
  refine ⟨M, env, R, ?_⟩
  cases q : d env with
  | ok a =>
    obtain ⟨v, o, env'⟩ := a
    rw [q] at h
    exact fun M' H' e R' x r => k v o env' x M' H' e R' r (Post.mono (r := f (v, o, env')) h e)
  | exc c p => rw [q] at h; exact h
  | bad => rw [q] at h; exact h
/-- .. where the value is taken as shared -/
theorem Post.bindF {α : Type} {ok : α → AP → Hp → Prop} {f : ER → Res α} {d : ED} {B : VK} (R : RelEnv G.K H G.P M σ env) (h : Post G M H ok (d env >>= f))
    (k : ∀ v o env' x M' H', Ext M H M' H' → RelEnv G.K H' G.P M' σ env' → Rp G.K H' (or' G.P M') v x → Post G M' H' ok (f (v, o, env')) → B x H') : tE G d σ H B :=
  Post.bindE R h fun v o env' x M' H' e R' r p => by
    obtain ⟨M2, e2, R2, r2⟩ := r.give R'
    exact k v o env' x M2 H' (e.trans e2) R2 r2 (p.mono e2)
end

theorem _root_.L2.PE.pv {X : Cx} {e : Expr} {t t' : TE} (h : PE X e t) (w : ∀ σ H Q, t' σ H Q → t σ H Q) : PE X e t' := ⟨fun pins s σ H Q I q => h.run pins s σ H Q I (w σ H Q q)⟩
theorem _root_.L2.PT.pv {X : Cx} {e : Expr} {t t' : TT} (h : PT X e t) (w : ∀ σ H Q, t' σ H Q → t σ H Q) : PT X e t' := ⟨fun pins s σ H Q I q => h.run pins s σ H Q I (w σ H Q q)⟩
theorem _root_.L2.PW.pv {X : Cx} {e : Expr} {t t' : TT} (h : PW X e t) (w : ∀ σ H Q, t' σ H Q → t σ H Q) : PW X e t' := ⟨fun wh pins s σ H Q I q => h.run wh pins s σ H Q I (w σ H Q q)⟩
theorem _root_.L2.PA.pv {X : Cx} {e : List Expr} {t t' : TA} (h : PA X e t) (w : ∀ σ H Q, t' σ H Q → t σ H Q) : PA X e t' := ⟨fun pos pins s σ H Q I q => h.run pos pins s σ H Q I (w σ H Q q)⟩
theorem _root_.L2.PS.pv {X : Cx} {e : Stmt} {t t' : TS} (h : PS X e t) (w : ∀ D σ H, t' D σ H → t D σ H) : PS X e t' := ⟨fun pins s σ H D I q => h.run pins s σ H D I (w D σ H q)⟩
theorem _root_.L2.PSs.pv {X : Cx} {e : List Stmt} {t t' : TS} (h : PSs X e t) (w : ∀ D σ H, t' D σ H → t D σ H) : PSs X e t' := ⟨fun pins s σ H D I q => h.run pins s σ H D I (w D σ H q)⟩
theorem _root_.L2.PI.pv {X : Cx} {tg e : Expr} {t t' : TI} (h : PI X tg e t) (w : ∀ σ H Q, t' σ H Q → t σ H Q) : PI X tg e t' := ⟨fun pins s σ H Q I q => h.run pins s σ H Q I (w σ H Q q)⟩

/-! ### names and constants -/
section
variable {X : Cx} {G : Cfg}
/-- a name that is taken: what is ours is shared from now on -/
def dVar (i : Nat) : ED := fun env => match env[i]? with
  | some (.frz v) => .ok (v, false, env)
  | some (.own v) => .ok (v, false, env.set i (.frz v))
  | _ => .bad
theorem RelEnv.set {K : PySem.W.Frag} {H : Hp} {P M : AP} {σ : L2.St} {env : EnvD} {i : Nat} {t : Slot} (R : RelEnv K H P M σ env) (no : ∀ v, t ≠ .own v) (h : SlotOk K H P M σ i t) : RelEnv K H P M σ (env.set i t) := by
  refine ⟨by rw [List.length_set]; exact R.len, fun j u e => ?_, fun j k a v w e1 e2 e3 e4 => ?_, R.mal, R.pal, R.pm⟩
  · by_cases hj : i = j
    · subst hj
      by_cases hl : i < env.length
      · rw [List.getElem?_set_self hl] at e; cases e; exact h
      · rw [List.getElem?_eq_none (by simpa using hl)] at e; cases e
    · rw [List.getElem?_set_ne hj] at e; exact R.slot j u e
  · have go : ∀ (j : Nat) (v : Val), (env.set i t)[j]? = some (.own v) → env[j]? = some (.own v) := fun j v e => by
      by_cases hj : i = j
      · subst hj
        by_cases hl : i < env.length
        · rw [List.getElem?_set_self hl] at e; exact absurd (Option.some.inj e) (no v)
        · rw [List.getElem?_eq_none (by simpa using hl)] at e; cases e
      · rw [List.getElem?_set_ne hj] at e; exact e
    exact R.one j k a v w (go j v e1) (go k w e2) e3 e4
/-- a name's container is given up -/
theorem RelEnv.giveSlot {K : PySem.W.Frag} {H : Hp} {P M : AP} {σ : L2.St} {env : EnvD} {i : Nat} {v : Val} (R : RelEnv K H P M σ env) (h : env[i]? = some (.own v)) :
    ∃ a M', σ[i]? = some (some (.ref a)) ∧ Ext M H M' H ∧ RelEnv K H P M' σ (env.set i (.frz v)) ∧ Rp K H (or' P M') v (.ref a) := by
  obtain ⟨a, ea, ma, ow⟩ := R.slot i _ h
  have st : Stay H (or' P M) H (or' P (fun b => M b ∧ b ≠ a)) := Stay.less fun b q => q.elim .inl fun m => .inr m.1
  have rv : Rp K H (or' P (fun b => M b ∧ b ≠ a)) v (.ref a) := (ow.stay st rfl).rp fun q => q.elim (fun p => R.pm a p ma) fun m => m.2 rfl
  have il : i < env.length := (List.getElem?_eq_some_iff.mp h).1
  refine ⟨a, fun b => M b ∧ b ≠ a, ea, Ext.less fun b m => m.1, ⟨by rw [List.length_set]; exact R.len, fun j u e => ?_, fun j k b w w' e1 e2 e3 e4 => ?_, fun b m => R.mal b m.1, R.pal, fun b p m => R.pm b p m.1⟩, rv⟩
  · by_cases hj : i = j
    · subst hj
      rw [List.getElem?_set_self il] at e; cases e
      exact ⟨_, ea, rv⟩
    · rw [List.getElem?_set_ne hj] at e
      have q := R.slot j u e
      cases u with
      | emp => trivial
      | frz w => obtain ⟨y, e', r⟩ := q; exact ⟨y, e', Rp.stay st _ _ r⟩
      | own w =>
        obtain ⟨b, e', mb, r⟩ := q
        refine ⟨b, e', ⟨mb, fun z => ?_⟩, r.stay st rfl⟩
        subst z
        exact hj (R.one i j b v w h e ea e')
  · have go : ∀ (j : Nat) (v' : Val), (env.set i (Slot.frz v))[j]? = some (.own v') → env[j]? = some (.own v') := fun j v' e => by
      by_cases hj : i = j
      · subst hj; rw [List.getElem?_set_self il] at e; cases e
      · rw [List.getElem?_set_ne hj] at e; exact e
    exact R.one j k b w w' (go j w e1) (go k w' e2) e3 e4
theorem se_var {i : Nat} {x : Str} {pos : Pos} (hN : X.N[i]? = some x) (hv : Vis X.env.scope x) (hd : (x == ("__debug__" : Str)) = false) (hcd : (x == ("__classdict__" : Str)) = false) : PE X (.Name x pos) (tE G (dVar i)) := by
  refine (pe_var hN hv hd hcd).pv fun σ H Q h => ?_
  obtain ⟨M, env, R, p⟩ := h
  unfold dVar at p
  cases q : env[i]? with
  | none => rw [q] at p; exact p.elim
  | some t =>
    rw [q] at p
    cases t with
    | emp => exact p.elim
    | frz v =>
      obtain ⟨x, e, r⟩ := R.slot i _ q
      exact ⟨x, e, p M H .refl R x r⟩
    | own v =>
      obtain ⟨a, M', ea, ex, R', r⟩ := R.giveSlot q
      exact ⟨_, ea, p M' H ex R' _ r⟩
/-- a constant -/
def dC (v : Val) : ED := fun env => .ok (v, false, env)
theorem se_c {e : Expr} {v : Val} {x : V} (h : PE X e (tC x)) (hv : ∀ H A, Rp G.K H A v x) : PE X e (tE G (dC v)) :=
  h.pv fun σ H Q ⟨M, env, R, p⟩ => p M H .refl R x (hv _ _)
theorem se_int {i j pos} : PE X (.Constant (.int i) j pos) (tE G (dC (.int i))) := se_c pe_int fun _ _ => rp_int.mpr rfl
theorem se_bl {i j pos} : PE X (.Constant (.bool i) j pos) (tE G (dC (.bl i))) := se_c pe_bl fun _ _ => rp_bl.mpr rfl
theorem se_str {i j pos} : PE X (.Constant (.str i) j pos) (tE G (dC (.str i))) := se_c pe_str fun _ _ => rp_str.mpr rfl
theorem se_non {j pos} : PE X (.Constant .none j pos) (tE G (dC .non)) := se_c pe_non fun _ _ => rp_non.mpr rfl
end
end PV

namespace PV
open PySem PySem.Spec PyProof.Rows L2
open PySem.W (dataLt alike alikeAll lt_data gt_data le_data ge_data AlikeAll minD maxD)

/-- a new result, all that was tracked as it was -/
def NewR (K : PySem.W.Frag) (H H' : Hp) (A : AP) (u : Val) (o : Bool) (z : V) : Prop :=
  match o with
  | false => Rp K H' A u z
  | true => ∃ p, z = .ref p ∧ H p = none ∧ OwnAt K H' (or' A (· = p)) p u

section
variable {G : Cfg} {M M' : AP} {H H' : Hp} {σ : L2.St} {env env' : EnvD} {Q : VK} {u v : Val} {o : Bool} {x z : V}
theorem or_assoc {P M N : AP} : or' (or' P M) N = or' P (or' M N) := by
  funext a; simp only [or', eq_iff_iff]; exact ⟨fun h => h.elim (fun h => h.elim .inl fun m => .inr (.inl m)) fun n => .inr (.inr n), fun h => h.elim (fun p => .inl (.inl p)) fun h => h.elim (fun m => .inl (.inr m)) .inr⟩
theorem fin_new (R : RelEnv G.K H G.P M σ env) (h : Post G M H (okE G σ Q) (.ok (u, o, env))) (same : ∀ a t, H a = some t → H' a = some t) (n : NewR G.K H H' (or' G.P M) u o z) : Q z H' := by
  cases o with
  | false =>
    have e : Ext M H M H' := Ext.same same fun _ m => .inl m
    exact h M H' e (R.same same (fun _ m => m) e fun a m => e.live a (R.mal a m)) z n
  | true =>
    obtain ⟨p, rfl, hp, ow⟩ := n
    have e : Ext M H (or' M (· = p)) H' := Ext.same same fun a m => m.elim .inl fun e => .inr (e ▸ hp)
    have R' : RelEnv G.K H' G.P (or' M (· = p)) σ env := R.same same (fun _ m => .inl m) e fun a m => m.elim (fun m => e.live a (R.mal a m)) fun q => by subst q; exact ow.ne
    refine h _ H' e R' _ ⟨p, rfl, .inr rfl, by rw [← or_assoc]; exact ow, fun i w ei eσ => ?_⟩
    obtain ⟨a, ea, ma, _⟩ := R.slot i _ ei
    rw [ea] at eσ
    have : a = p := by simpa using eσ
    subst this
    exact R.mal a ma hp
theorem fin_same (R : RelEnv G.K H G.P M σ env) (h : Post G M H (okE G σ Q) (.ok (u, false, env))) (n : Rp G.K H (or' G.P M) u z) : Q z H := fin_new R h (fun _ _ e => e) n
end

/-- what a rule of values asks is answered by f -/
def Ans (K : PySem.W.Frag) (H : Hp) (A : AP) (r : Hp → VK → Prop) : Res (Val × Bool) → Prop
  | .ok (u, o) => ∀ Q, (∀ z H', (∀ a t, H a = some t → H' a = some t) → NewR K H H' A u o z → Q z H') → r H Q
  | .exc _ _ => False
  | .bad => True
def OpS (K : PySem.W.Frag) (r : R2) (f : Val → Val → Res (Val × Bool)) : Prop :=
  ∀ H A v w x y, (∀ a, A a → H a ≠ none) → Rp K H A v x → Rp K H A w y → Ans K H A (r x y) (f v w)
def OpS1 (K : PySem.W.Frag) (r : V → Hp → VK → Prop) (f : Val → Res (Val × Bool)) : Prop :=
  ∀ H A v x, (∀ a, A a → H a ≠ none) → Rp K H A v x → Ans K H A (r x) (f v)
def OpSL (K : PySem.W.Frag) (r : List V → Hp → VK → Prop) (f : List Val → Res (Val × Bool)) : Prop :=
  ∀ H A v x, (∀ a, A a → H a ≠ none) → RpL K H A v x → Ans K H A (r x) (f v)

theorem RelEnv.al {K : PySem.W.Frag} {H : Hp} {P M : AP} {σ : L2.St} {env : EnvD} (R : RelEnv K H P M σ env) : ∀ a, or' P M a → H a ≠ none := fun a h => h.elim (R.pal a) (R.mal a)
section
variable {G : Cfg} {M M' : AP} {H H' : Hp} {σ : L2.St} {env env' : EnvD} {Q : VK}
theorem fin_ans {r : Hp → VK → Prop} {f : Res (Val × Bool)} (R : RelEnv G.K H G.P M σ env) (a : Ans G.K H (or' G.P M) r f) (p : Post G M H (okE G σ Q) (f >>= fun z => .ok (z.1, z.2, env))) : r H Q := by
  cases f with
  | ok z =>
    obtain ⟨u, o⟩ := z
    exact a Q fun z H' s n => fin_new R p s n
  | exc c q => exact a.elim
  | bad => exact p.elim
end
def dBin (f : Val → Val → Res (Val × Bool)) (da db : ED) : ED := fun env => da env >>= fun a => db a.2.2 >>= fun b => f a.1 b.1 >>= fun z => .ok (z.1, z.2, b.2.2)
def dUn (f : Val → Res (Val × Bool)) (da : ED) : ED := fun env => da env >>= fun a => f a.1 >>= fun z => .ok (z.1, z.2, a.2.2)
section
variable {X : Cx} {G : Cfg} {a b : Expr} {da db : ED} {pos : Pos}
theorem tE_bin {r : R2} {f : Val → Val → Res (Val × Bool)} (hs : OpS G.K r f) {σ : L2.St} {H : Hp} {Q : VK} (h : tE G (dBin f da db) σ H Q) : tOp r (tE G da) (tE G db) σ H Q := by
  obtain ⟨M, env, R, p⟩ := h
  refine Post.bindF R p fun v o e1 x M1 H1 x1 R1 r1 p1 => ?_
  refine Post.bindF R1 p1 fun w o2 e2 y M2 H2 x2 R2 r2 p2 => ?_
  have r1' := Rp.stay (x2.stay R1.pal) _ _ r1
  exact fin_ans R2 (hs H2 _ v w x y R2.al r1' r2) p2
theorem tE_un {r : V → Hp → VK → Prop} {f : Val → Res (Val × Bool)} (hs : OpS1 G.K r f) {σ : L2.St} {H : Hp} {Q : VK} (h : tE G (dUn f da) σ H Q) : tUn r (tE G da) σ H Q := by
  obtain ⟨M, env, R, p⟩ := h
  refine Post.bindF R p fun v o e1 x M1 H1 x1 R1 r1 p1 => ?_
  exact fin_ans R1 (hs H1 _ v x R1.al r1) p1
theorem se_bin {op : Operator} {r : R2} {f : Val → Val → Res (Val × Bool)} (ho : OpR X (binaryOp op) r) (hs : OpS G.K r f) (ha : PE X a (tE G da)) (hb : PE X b (tE G db)) : PE X (.BinOp a op b pos) (tE G (dBin f da db)) :=
  (pe_op ho ha hb).pv fun σ H Q h => tE_bin hs h
theorem se_un {op : UnaryOp} {r : V → Hp → VK → Prop} {f : Val → Res (Val × Bool)} (ho : UnR X (unaryOp op) r) (hs : OpS1 G.K r f) (ha : PE X a (tE G da)) : PE X (.UnaryOp op a pos) (tE G (dUn f da)) :=
  (pe_un ho ha).pv fun σ H Q h => tE_un hs h
theorem se_cmp {op : CmpOp} {r : R2} {f : Val → Val → Res (Val × Bool)} (ho : OpR X (compareOp op) r) (hs : OpS G.K r f) (ha : PE X a (tE G da)) (hb : PE X b (tE G db)) (hm : behindInMarks op b = false) : PE X (.Compare a [op] [b] pos) (tE G (dBin f da db)) :=
  (pe_cmpR ho ha hb hm).pv fun σ H Q h => tE_bin hs h
end

/-! ### operators on values -/
def OpR.or {X : Cx} {f : Value → Value → Sem Value} {r r' : R2} (h : OpR X f r) (h' : OpR X f r') : OpR X f (fun x y H Q => r x y H Q ∨ r' x y H Q) :=
  fun pins s σ H x y v u Q I rx ry q => q.elim (h pins s σ H x y v u Q I rx ry) (h' pins s σ H x y v u Q I rx ry)
theorem OpR.never {X : Cx} {f : Value → Value → Sem Value} : OpR X f (fun _ _ _ _ => False) := fun _ _ _ _ _ _ _ _ _ _ _ _ q => q.elim

def b2 (b : Bool) : Int := if b then 1 else 0
def mulOk (i j : Int) : Bool := decide (i.natAbs < 2 ^ 64) || decide (j.natAbs < 2 ^ 64)
def oAdd : Val → Val → Res (Val × Bool)
  | .int i, .int j => .ok (.int (i + j), false)
  | .int i, .bl k => .ok (.int (i + b2 k), false)
  | .str s, .str t => if s.length + t.length ≤ sizeLine then .ok (.str (s ++ t), false) else .bad
  | .tup xs, .tup ys => if xs.length + ys.length ≤ sizeLine then .ok (.tup (xs ++ ys), false) else .bad
  | .lst xs, .lst ys => if xs.length + ys.length ≤ sizeLine then .ok (.lst (xs ++ ys), true) else .bad
  | _, _ => .bad
def oSub : Val → Val → Res (Val × Bool)
  | .int i, .int j => .ok (.int (i - j), false)
  | _, _ => .bad
def oMul : Val → Val → Res (Val × Bool)
  | .int i, .int j => if mulOk i j then .ok (.int (i * j), false) else .bad
  | .lst xs, .int k => if k.natAbs < 2 ^ 63 ∧ xs.length * k.toNat ≤ sizeLine then .ok (.lst (List.replicate k.toNat xs).flatten, true) else .bad
  | .tup xs, .int k => if k.natAbs ≤ 1000 ∧ xs.length ≤ 1000 then .ok (.tup (List.replicate k.toNat xs).flatten, false) else .bad
  | _, _ => .bad
def oDiv : Val → Val → Res (Val × Bool)
  | .int i, .int j => if 0 < j ∧ j.natAbs < 1073741824 then .ok (.int (i / j), false) else .bad
  | _, _ => .bad
def oMod : Val → Val → Res (Val × Bool)
  | .int i, .int j => if 0 < j then .ok (.int (i % j), false) else .bad
  | _, _ => .bad
def oPow : Val → Val → Res (Val × Bool)
  | .int i, .int j => if 0 ≤ j ∧ j.natAbs ≤ 1000000 ∧ i.natAbs < 2 ^ 64 then .ok (.int (i ^ j.toNat), false) else .bad
  | _, _ => .bad
def oShl : Val → Val → Res (Val × Bool)
  | .int i, .int j => if 0 ≤ j ∧ j.natAbs ≤ 1000000 ∧ i.natAbs < 2 ^ 64 then .ok (.int (i * 2 ^ j.toNat), false) else .bad
  | _, _ => .bad
def oAnd : Val → Val → Res (Val × Bool)
  | .int i, .int j => .ok (.int (Builtin.bitAnd i j), false)
  | _, _ => .bad
def oNeg : Val → Res (Val × Bool)
  | .int i => .ok (.int (-i), false)
  | _ => .bad

section
variable {X : Cx} {K : PySem.W.Frag}
abbrev rAddV (K : PySem.W.Frag) : R2 := fun x y H Q => (rI0 fun i j => .int (i + j)) x y H Q ∨ (∃ i k, x = .int i ∧ y = .bl k ∧ Q (.int (i + b2i k)) H) ∨ (∃ i j, x = .str i ∧ y = .str j ∧ i.length + j.length ≤ sizeLine ∧ Q (.str (i ++ j)) H) ∨ rCatA K x y H Q ∨ rCat x y H Q
theorem op_addV : OpR X (binaryOp .Add) (rAddV X.K) := op_add.or (op_add_ib.or (op_add_str.or (op_catA.or op_cat)))
theorem bad_ans {H : Hp} {A : AP} {r : Hp → VK → Prop} : Ans K H A r .bad := trivial
theorem ans_pure {H : Hp} {A : AP} {r : Hp → VK → Prop} {u : Val} (x : V) (hx : ∀ A, Rp K H A u x) (h : ∀ Q : VK, Q x H → r H Q) : Ans K H A r (.ok (u, false)) := fun Q q => h Q (q x H (fun _ _ e => e) (hx A))
/-- a new tuple -/
theorem new_tup {H : Hp} {A : AP} {p : Addr} {vs : List Val} {xs : List V} (al : ∀ a, A a → H a ≠ none) (hp : H p = none) (r : RpL K H A vs xs) (z : vs.length ≤ sizeLine) : NewR K H (upd H p (.tup xs)) A (.tup vs) false (.ref p) :=
  rp_tup.mpr ⟨p, xs, rfl, fun h => al p h hp, upd_same, RpL.stay (fun a o e n => ⟨same_upd hp a o e, n⟩) _ _ r, z⟩
theorem new_lst {H : Hp} {A : AP} {p : Addr} {vs : List Val} {xs : List V} (hp : H p = none) (r : RpL K H A vs xs) (z : vs.length ≤ sizeLine) : NewR K H (upd H p (.lst xs)) A (.lst vs) true (.ref p) :=
  ⟨p, rfl, hp, xs, upd_same, RpL.stay (fun a o e n => ⟨same_upd hp a o e, fun h => h.elim n fun q => by subst q; rw [hp] at e; cases e⟩) _ _ r, z⟩
/-- a list that stands (not the script) -/
def Std (H : Hp) (a : Addr) (xs : List V) : Prop := H a = some (.lst xs)
theorem s_add : OpS K (rAddV K) oAdd := by
  intro H A v w x y al hv hw
  cases v <;> cases w <;> try exact bad_ans
  case int.int i j => rw [rp_int] at hv hw; subst hv hw; exact ans_pure (.int (i + j)) (fun _ => rp_int.mpr rfl) fun Q q => .inl ⟨i, j, rfl, rfl, q⟩
  case int.bl i k => rw [rp_int] at hv; rw [rp_bl] at hw; subst hv hw; exact ans_pure (.int (i + b2i k)) (fun _ => rp_int.mpr (by cases k <;> rfl)) fun Q q => .inr (.inl ⟨i, k, rfl, rfl, q⟩)
  case str.str i j =>
    rw [rp_str] at hv hw; subst hv hw
    show Ans _ _ _ _ (if i.length + j.length ≤ sizeLine then _ else _)
    split
    · rename_i h; exact ans_pure (.str (i ++ j)) (fun _ => rp_str.mpr rfl) fun Q q => .inr (.inr (.inl ⟨i, j, rfl, rfl, h, q⟩))
    · exact bad_ans
  case tup.tup vs ws =>
    rw [rp_tup] at hv hw
    obtain ⟨a, xs, rfl, na, ha, l1, z1⟩ := hv
    obtain ⟨b, ys, rfl, nb, hb, l2, z2⟩ := hw
    show Ans _ _ _ _ (if vs.length + ws.length ≤ sizeLine then _ else _)
    split
    · rename_i h
      intro Q q
      have e1 := l1.length
      have e2 := l2.length
      refine .inr (.inr (.inr (.inl ⟨a, b, xs, ys, rfl, rfl, SqT.of ha, SqT.of hb, by omega, fun z => ?_, fun q1 q2 => ?_, fun q1 q2 p hp => ?_⟩)))
      · subst z
        have : vs = [] := List.length_eq_zero_iff.mp (by simpa using e1.symm)
        subst this
        exact q _ H (fun _ _ e => e) (rp_tup.mpr ⟨b, ys, rfl, nb, hb, l2, z2⟩)
      · subst q2
        have : ws = [] := List.length_eq_zero_iff.mp (by simpa using e2.symm)
        subst this
        exact q _ H (fun _ _ e => e) (by rw [List.append_nil]; exact rp_tup.mpr ⟨a, xs, rfl, na, ha, l1, z1⟩)
      · exact q _ _ (same_upd hp) (new_tup al hp (l1.append l2) (by rw [List.length_append]; exact h))
    · exact bad_ans
  case lst.lst vs ws =>
    rw [rp_lst] at hv hw
    obtain ⟨a, xs, rfl, na, ha, l1, z1⟩ := hv
    obtain ⟨b, ys, rfl, nb, hb, l2, z2⟩ := hw
    show Ans _ _ _ _ (if vs.length + ws.length ≤ sizeLine then _ else _)
    split
    · rename_i h
      intro Q q
      have e1 := l1.length
      have e2 := l2.length
      exact .inr (.inr (.inr (.inr ⟨a, b, xs, ys, rfl, rfl, ha, hb, by omega, fun p hp => q _ _ (same_upd hp) (new_lst hp (l1.append l2) (by rw [List.length_append]; exact h))⟩)))
    · exact bad_ans
theorem s_sub : OpS K (rI0 fun i j => .int (i - j)) oSub := by
  intro H A v w x y al hv hw
  cases v <;> cases w <;> try exact bad_ans
  case int.int i j => rw [rp_int] at hv hw; subst hv hw; exact ans_pure (.int (i - j)) (fun _ => rp_int.mpr rfl) fun Q q => ⟨i, j, rfl, rfl, q⟩
/-- a tuple times an int, where the tuple is empty or the int is at most one -/
theorem tuple_few (l : Addr) (its : Array Value) (n : Nat) (dd : Option Addr) (sl : Array (Option Value)) {x : Int} (u : Tok) (lo : -1000 ≤ x) (hi : x ≤ 1000) (few : its.isEmpty = true ∨ x ≤ 1) :
    Meets (Builtin.«tuple.__mul__» ⟨[.ref l, .int x u], []⟩) (fun _ R s => s.heap.get? l = some { cls := .type "tuple", dict := dd, data := .seq its n, slots := sl } ∧
      if its.isEmpty = true ∨ x = 1 then R (.ok (.ret (.ref l))) s else R (.ok (.ret (.ref s.heap.objs.size))) { s with heap := s.heap.push { cls := .type "tuple", data := .seq #[] } }) := by
  refine .of_wp fun prog w A R s ⟨hl, post⟩ => ?_
  have asked := AutoSeq1.idx_int
  have fits : (decide (x < -(2 ^ 63)) || decide (x ≥ 2 ^ 63)) = false := by simp only [Bool.or_eq_false_iff, decide_eq_false_iff_not]; omega
  wp_walk using wpAny_loadPart' hl
  refine wpAny_ite_false (by rw [fits]; rfl) ?_
  by_cases c : its.isEmpty = true ∨ x = 1
  · rw [if_pos c] at post
    have c' : (its.isEmpty || x == 1) = true := by simpa using c
    wp_walk using wpAny_loadPart' hl
    exact ⟨_, rfl, post⟩
  · rw [if_neg c] at post
    have c' : (its.isEmpty || x == 1) = false := by simpa using c
    have small : (decide (x ≤ 0) || its.isEmpty) = true := by
      have := not_or.mp c
      simp only [Bool.or_eq_true, decide_eq_true_eq]
      exact .inl (by have := few.resolve_left this.1; omega)
    wp_walk using wpAny_loadPart' hl
    exact ⟨_, rfl, post⟩
/-- a tuple times an int where nothing is gone through -/
def rRepT0 (K : PySem.W.Frag) : R2 := fun x y H Q => ∃ l k xs, x = .ref l ∧ y = .int k ∧ SqT K H l xs ∧ k.natAbs ≤ 1000 ∧ xs.length ≤ 1000 ∧
  (((xs = [] ∨ k = 1) ∧ Q (.ref l) H) ∨ (xs ≠ [] ∧ k ≤ 0 ∧ ∀ p, H p = none → Q (.ref p) (upd H p (.tup []))))
theorem op_repT0 : OpR X (binaryOp .Mult) (rRepT0 X.K) := by
  rintro pins s σ H _ _ v u Q I rx ry ⟨l, k, xs, rfl, rfl, hT, h1, h2, q⟩
  obtain ⟨t, rfl⟩ := ry
  cases (rx : v = .ref l)
  obtain ⟨its, r, ⟨⟨cls, dd, data, sl⟩, ho, hc, n, hd⟩, hs⟩ := I.tuple hT
  cases hc; cases hd
  have len := r.length
  have emp : its.toArray.isEmpty = true ↔ xs = [] := by
    rw [← List.length_eq_zero_iff, len]; simp
  have few : its.toArray.isEmpty = true ∨ k ≤ 1 := by
    rcases q with ⟨c | c, -⟩ | ⟨-, c, -⟩
    · exact .inl (emp.mpr c)
    · exact .inr (by omega)
    · exact .inr (by omega)
  have times := tuple_few l its.toArray n dd sl t (x := k) (by omega) (by omega) few
  have turned := int_rmul_tuple k t l its.toArray n dd sl
  refine wpAny_binaryOp_repeat_ref (U := "int") (by decide) ⟨_, ho, rfl⟩ (fun _ => typeIs_int _ k t) noFill_tuple_mul F.fills_int_mul F.slot_int_rmul repeat_tuple F.slot_int_index.lookup
    (call_meets F.slot_int_rmul (typeIs_int s k t) F.entry_int_rmul (F.args_int_rmul_2 _ _) turned ⟨ho, rfl, ⟨_, ho, rfl⟩, call_meets F.slot_tuple_mul ⟨_, ho, rfl⟩ F.entry_tuple_mul (F.args_tuple_mul_2 _ _) times ⟨ho, ?_⟩⟩)
  split <;> rename_i c <;> rcases q with ⟨c', q⟩ | ⟨c1, c2, q⟩
  · exact ⟨.ref l, H, I, rfl, q⟩
  · exact absurd c (not_or.mpr ⟨fun e => c1 (emp.mp e), by omega⟩)
  · exact absurd (c'.imp emp.mpr id) c
  · have hn := I.hok.fresh (Nat.le_refl _)
    exact ⟨.ref s.heap.objs.size, _, I.laid (t' := s.toks) (o := .tup []) (fun _ _ => Heap.get?_push_of_some _) (Nat.le_refl _) ⟨Nat.zero_le _, [], .nil, IsTup.new _ _⟩, rfl, q _ hn⟩
abbrev rMulV (K : PySem.W.Frag) : R2 := fun x y H Q => (rI CMul fun i j => .int (i * j)) x y H Q ∨ rRep x y H Q ∨ rRepT K x y H Q ∨ rRepT0 K x y H Q
theorem op_mulV : OpR X (binaryOp .Mult) (rMulV X.K) := op_mul.or (op_rep.or (op_repT.or op_repT0))
theorem mulOk_iff {i j : Int} (h : mulOk i j = true) : CMul i j := by
  simp only [mulOk, Bool.or_eq_true, decide_eq_true_eq] at h
  exact h.imp (fun h => by omega) fun h => by omega
theorem rep_len {α : Type} (n : Nat) (xs : List α) : (List.replicate n xs).flatten.length = n * xs.length := by
  rw [List.length_flatten, List.map_replicate, List.sum_replicate_nat]
theorem RpL.rep {H : Hp} {A : AP} {vs : List Val} {xs : List V} (h : RpL K H A vs xs) : ∀ n : Nat, RpL K H A (List.replicate n vs).flatten (List.replicate n xs).flatten
  | 0 => by simpa using RpL.nil
  | n + 1 => by
    simp only [List.replicate_succ, List.flatten_cons]
    exact h.append (RpL.rep h n)
theorem s_mul : OpS K (rMulV K) oMul := by
  intro H A v w x y al hv hw
  cases v <;> cases w <;> try exact bad_ans
  case int.int i j =>
    rw [rp_int] at hv hw; subst hv hw
    show Ans _ _ _ _ (if mulOk i j then _ else _)
    split
    · rename_i h; exact ans_pure (.int (i * j)) (fun _ => rp_int.mpr rfl) fun Q q => .inl ⟨i, j, rfl, rfl, mulOk_iff h, q⟩
    · exact bad_ans
  case lst.int vs k =>
    rw [rp_int] at hw; subst hw
    rw [rp_lst] at hv
    obtain ⟨a, xs, rfl, na, ha, l1, z1⟩ := hv
    show Ans _ _ _ _ (if k.natAbs < 2 ^ 63 ∧ vs.length * k.toNat ≤ sizeLine then _ else _)
    split
    · rename_i h
      exact fun Q q => .inr (.inl ⟨a, k, xs, rfl, rfl, ha, by omega, by omega, by rw [l1.length]; exact h.2, fun p hp => q _ _ (same_upd hp) (new_lst hp (l1.rep _) (by rw [rep_len, Nat.mul_comm]; exact h.2))⟩)
    · exact bad_ans
  case tup.int vs k =>
    rw [rp_int] at hw; subst hw
    rw [rp_tup] at hv
    obtain ⟨a, xs, rfl, na, ha, l1, z1⟩ := hv
    show Ans _ _ _ _ (if k.natAbs ≤ 1000 ∧ vs.length ≤ 1000 then _ else _)
    split
    · rename_i h
      have e1 := l1.length
      by_cases c : xs = [] ∨ k = 1
      · refine fun Q q => .inr (.inr (.inr ⟨a, k, xs, rfl, rfl, SqT.of ha, h.1, by omega, .inl ⟨c, q _ H (fun _ _ e => e) ?_⟩⟩))
        have e : (List.replicate k.toNat vs).flatten = vs := by
          rcases c with c | c
          · subst c
            have : vs = [] := List.length_eq_zero_iff.mp (by simpa using e1.symm)
            subst this; simp
          · subst c; simp
        rw [e]
        exact rp_tup.mpr ⟨a, xs, rfl, na, ha, l1, z1⟩
      · by_cases c2 : 2 ≤ k
        · exact fun Q q => .inr (.inr (.inl ⟨a, k, xs, rfl, rfl, SqT.of ha, fun z => c (.inl z), c2, by omega, by omega, fun p hp => q _ _ (same_upd hp) (new_tup al hp (l1.rep _) (by rw [rep_len, sizeLine_eq]; exact Nat.le_trans (Nat.mul_le_mul (show k.toNat ≤ 1000 by omega) h.2) (by decide)))⟩))
        · refine fun Q q => .inr (.inr (.inr ⟨a, k, xs, rfl, rfl, SqT.of ha, h.1, by omega, .inr ⟨fun z => c (.inl z), by omega, fun p hp => q _ _ (same_upd hp) ?_⟩⟩))
          have e : k.toNat = 0 := by omega
          rw [e]
          exact new_tup al hp RpL.nil (Nat.zero_le _)
    · exact bad_ans
theorem s_div : OpS K (rI CDiv fun i j => .int (i / j)) oDiv := by
  intro H A v w x y al hv hw
  cases v <;> cases w <;> try exact bad_ans
  case int.int i j =>
    rw [rp_int] at hv hw; subst hv hw
    show Ans _ _ _ _ (if 0 < j ∧ j.natAbs < 1073741824 then _ else _)
    split
    · rename_i h; exact ans_pure (.int (i / j)) (fun _ => rp_int.mpr rfl) fun Q q => ⟨i, j, rfl, rfl, ⟨h.1, by omega⟩, q⟩
    · exact bad_ans
theorem s_mod : OpS K (rI (fun _ j => 0 < j) fun i j => .int (i % j)) oMod := by
  intro H A v w x y al hv hw
  cases v <;> cases w <;> try exact bad_ans
  case int.int i j =>
    rw [rp_int] at hv hw; subst hv hw
    show Ans _ _ _ _ (if 0 < j then _ else _)
    split
    · rename_i h; exact ans_pure (.int (i % j)) (fun _ => rp_int.mpr rfl) fun Q q => ⟨i, j, rfl, rfl, h, q⟩
    · exact bad_ans
theorem s_pow : OpS K (rI CPow fun i j => .int (i ^ j.toNat)) oPow := by
  intro H A v w x y al hv hw
  cases v <;> cases w <;> try exact bad_ans
  case int.int i j =>
    rw [rp_int] at hv hw; subst hv hw
    show Ans _ _ _ _ (if 0 ≤ j ∧ j.natAbs ≤ 1000000 ∧ i.natAbs < 2 ^ 64 then _ else _)
    split
    · rename_i h; exact ans_pure (.int (i ^ j.toNat)) (fun _ => rp_int.mpr rfl) fun Q q => ⟨i, j, rfl, rfl, ⟨h.1, by omega, h.2.2⟩, q⟩
    · exact bad_ans
theorem s_shl : OpS K (rI CPow fun i j => .int (i * 2 ^ j.toNat)) oShl := by
  intro H A v w x y al hv hw
  cases v <;> cases w <;> try exact bad_ans
  case int.int i j =>
    rw [rp_int] at hv hw; subst hv hw
    show Ans _ _ _ _ (if 0 ≤ j ∧ j.natAbs ≤ 1000000 ∧ i.natAbs < 2 ^ 64 then _ else _)
    split
    · rename_i h; exact ans_pure (.int (i * 2 ^ j.toNat)) (fun _ => rp_int.mpr rfl) fun Q q => ⟨i, j, rfl, rfl, ⟨h.1, by omega, h.2.2⟩, q⟩
    · exact bad_ans
theorem s_and : OpS K (rI0 fun i j => .int (Builtin.bitAnd i j)) oAnd := by
  intro H A v w x y al hv hw
  cases v <;> cases w <;> try exact bad_ans
  case int.int i j => rw [rp_int] at hv hw; subst hv hw; exact ans_pure (.int (Builtin.bitAnd i j)) (fun _ => rp_int.mpr rfl) fun Q q => ⟨i, j, rfl, rfl, q⟩
theorem s_neg : OpS1 K (rU fun i => .int (-i)) oNeg := by
  intro H A v x al hv
  cases v <;> try exact bad_ans
  case int i => rw [rp_int] at hv; subst hv; exact ans_pure (.int (-i)) (fun _ => rp_int.mpr rfl) fun Q q => ⟨i, rfl, q⟩
end

/-! ### comparisons -/
mutual
def toD : Val → PyData
  | .non => .none
  | .bl b => .bool b
  | .int i => .int i
  | .str s => .str s
  | .tup vs => .tuple (toDs vs)
  | .lst vs => .list (toDs vs)
  | .dK _ => .dict []
  | .dT _ => .dict []
  | .ty _ => .dict []
  | .glo _ => .dict []
  | .scr _ => .dict []
  | .rng _ _ => .dict []
def toDs : List Val → List PyData
  | [] => []
  | v :: vs => toD v :: toDs vs
end
theorem toDs_map : ∀ vs : List Val, toDs vs = vs.map toD
  | [] => by simp [toDs]
  | v :: vs => by simp [toDs, toDs_map vs]
mutual
theorem Rp.dp {K : PySem.W.Frag} {H : Hp} {A : AP} : ∀ (v : Val) (x : V), (toD v).canLay0 = true → Rp K H A v x → Dp K H x (toD v)
  | .non, x, c, h => by rw [rp_non] at h; subst h; rw [toD]; exact .non
  | .bl b, x, c, h => by rw [rp_bl] at h; subst h; rw [toD]; exact .bl b
  | .int i, x, c, h => by rw [rp_int] at h; subst h; rw [toD]; exact .int i
  | .str s, x, c, h => by rw [rp_str] at h; subst h; rw [toD]; exact .str s
  | .tup vs, x, c, h => by
    rw [rp_tup] at h
    obtain ⟨a, xs, rfl, _, ha, l, z⟩ := h
    rw [toD, PyData.canLay0] at c
    rw [toD]
    exact .tup (SqT.of ha) (RpL.dp vs xs c l)
  | .lst vs, x, c, h => by
    rw [rp_lst] at h
    obtain ⟨a, xs, rfl, _, ha, l, z⟩ := h
    rw [toD, PyData.canLay0] at c
    rw [toD]
    exact .lst (SqL.of ha) (RpL.dp vs xs c l)
  | .dK _, x, c, h => by rw [toD, PyData.canLay0] at c; cases c
  | .dT _, x, c, h => by rw [toD, PyData.canLay0] at c; cases c
  | .ty _, x, c, h => by rw [toD, PyData.canLay0] at c; cases c
  | .glo _, x, c, h => by rw [toD, PyData.canLay0] at c; cases c
  | .scr _, x, c, h => by rw [toD, PyData.canLay0] at c; cases c
  | .rng _ _, x, c, h => by rw [toD, PyData.canLay0] at c; cases c
theorem RpL.dp {K : PySem.W.Frag} {H : Hp} {A : AP} : ∀ (vs : List Val) (xs : List V), PyData.canLayAll0 (toDs vs) = true → RpL K H A vs xs → DpAll K H xs (toDs vs)
  | [], xs, c, h => by rw [rpl_nil] at h; subst h; rw [toDs]; exact .nil
  | v :: vs, xs, c, h => by
    rw [rpl_cons] at h
    obtain ⟨x, r, rfl, h1, h2⟩ := h
    rw [toDs, PyData.canLayAll0, Bool.and_eq_true] at c
    rw [toDs]
    exact .cons (Rp.dp v x c.1 h1) (RpL.dp vs r c.2 h2)
end
def okV (v : Val) : Bool := SeqAt.shaped (toD v)
def eqV (v w : Val) : Bool := PyData.eqv (toD v) (toD w)
def ltV (v w : Val) : Bool := dataLt (toD v) (toD w)
def oEq (v w : Val) : Res (Val × Bool) := if okV v && okV w then .ok (.bl (eqV v w), false) else .bad
def oNe (v w : Val) : Res (Val × Bool) := if okV v && okV w then .ok (.bl (!eqV v w), false) else .bad
def cmpOk (v w : Val) : Bool := okV v && okV w && alike (toD v) (toD w) && (match v with | .non => false | _ => true)
def oLt (v w : Val) : Res (Val × Bool) := if cmpOk v w then .ok (.bl (ltV v w), false) else .bad
def oGt (v w : Val) : Res (Val × Bool) := if cmpOk v w then .ok (.bl (ltV w v), false) else .bad
def oLe (v w : Val) : Res (Val × Bool) := if cmpOk v w then .ok (.bl (!ltV w v), false) else .bad
def oGe (v w : Val) : Res (Val × Bool) := if cmpOk v w then .ok (.bl (!ltV v w), false) else .bad
section
variable {X : Cx} {K : PySem.W.Frag}
theorem s_eq : OpS K (rEqD K) oEq := by
  intro H A v w x y al hv hw
  unfold oEq
  split
  · rename_i h
    rw [Bool.and_eq_true] at h
    exact ans_pure _ (fun _ => rp_bl.mpr rfl) fun Q q => ⟨_, _, Rp.dp v x (SeqAt.canLay_of_shaped h.1) hv, Rp.dp w y (SeqAt.canLay_of_shaped h.2) hw, h.1, h.2, q⟩
  · exact bad_ans
theorem s_ne : OpS K (rNeD K) oNe := by
  intro H A v w x y al hv hw
  unfold oNe
  split
  · rename_i h
    rw [Bool.and_eq_true] at h
    exact ans_pure _ (fun _ => rp_bl.mpr rfl) fun Q q => ⟨_, _, Rp.dp v x (SeqAt.canLay_of_shaped h.1) hv, Rp.dp w y (SeqAt.canLay_of_shaped h.2) hw, h.1, h.2, q⟩
  · exact bad_ans
/-- two data in order -/
def rOrd (K : PySem.W.Frag) (g : PyData → PyData → Bool) : R2 := fun x y H Q => ∃ d e, Dp K H x d ∧ Dp K H y e ∧ SeqAt.shaped d = true ∧ SeqAt.shaped e = true ∧ alike d e = true ∧ d ≠ .none ∧ Q (.bl (g d e)) H
theorem op_ord {op : CmpOp} {g : PyData → PyData → Bool} (hu : X.A.units + 64 < cLine)
    (rule : ∀ (s : Shared) (a b : Value) (da db : PyData) (as bs : List Addr) (Q : Value → Shared → Prop), Reads s.heap a da as → Reads s.heap b db bs → alike da db = true → da ≠ .none → X.A.units + min da.depth db.depth < cLine → Q (.bool (g da db)) s → wpAny (model X.prog X.w) X.A (compareOp op a b) Q X.xe s) :
    OpR X (compareOp op) (rOrd X.K g) := by
  intro pins s σ H x y v u Q I rx ry h
  obtain ⟨d, e, hd, he, sd, se, al, nn, q⟩ := h
  obtain ⟨as, r1⟩ := Dp.reads I d x v hd rx
  obtain ⟨bs, r2⟩ := Dp.reads I e y u he ry
  exact rule s v u d e as bs _ r1 r2 al nn (SeqAt.room_of_shaped sd hu) ⟨.bl _, H, I, rfl, q⟩
theorem op_ltV (hu : X.A.units + 64 < cLine) : OpR X (compareOp .Lt) (rOrd X.K fun d e => dataLt d e) := op_ord hu fun s a b da db as bs Q r1 r2 al nn h q => lt_data r1 r2 al nn h q
theorem op_gtV (hu : X.A.units + 64 < cLine) : OpR X (compareOp .Gt) (rOrd X.K fun d e => dataLt e d) := op_ord hu fun s a b da db as bs Q r1 r2 al nn h q => gt_data r1 r2 al nn h q
theorem op_leV (hu : X.A.units + 64 < cLine) : OpR X (compareOp .LtE) (rOrd X.K fun d e => !dataLt e d) := op_ord hu fun s a b da db as bs Q r1 r2 al nn h q => le_data r1 r2 al nn h q
theorem op_geV (hu : X.A.units + 64 < cLine) : OpR X (compareOp .GtE) (rOrd X.K fun d e => !dataLt d e) := op_ord hu fun s a b da db as bs Q r1 r2 al nn h q => ge_data r1 r2 al nn h q
theorem cmpOk_iff {v w : Val} (h : cmpOk v w = true) : okV v = true ∧ okV w = true ∧ alike (toD v) (toD w) = true ∧ toD v ≠ .none := by
  unfold cmpOk at h
  simp only [Bool.and_eq_true] at h
  refine ⟨h.1.1.1, h.1.1.2, h.1.2, ?_⟩
  cases v <;> simp [toD] at h ⊢
theorem s_ord {g : PyData → PyData → Bool} {f : Val → Val → Res (Val × Bool)} (hf : ∀ v w, f v w = if cmpOk v w then .ok (.bl (g (toD v) (toD w)), false) else .bad) : OpS K (rOrd K g) f := by
  intro H A v w x y al hv hw
  rw [hf]
  split
  · rename_i h
    obtain ⟨h1, h2, h3, h4⟩ := cmpOk_iff h
    exact ans_pure _ (fun _ => rp_bl.mpr rfl) fun Q q => ⟨_, _, Rp.dp v x (SeqAt.canLay_of_shaped h1) hv, Rp.dp w y (SeqAt.canLay_of_shaped h2) hw, h1, h2, h3, h4, q⟩
  · exact bad_ans
/-! is, is not -/
def isNon : Val → Bool
  | .non => true
  | _ => false
def oIs : Val → Val → Res (Val × Bool)
  | v, .non => .ok (.bl (isNon v), false)
  | .bl a, .bl b => .ok (.bl (decide (a = b)), false)
  | _, _ => .bad
def oIsNot : Val → Val → Res (Val × Bool)
  | v, .non => .ok (.bl (!isNon v), false)
  | .bl a, .bl b => .ok (.bl (!decide (a = b)), false)
  | _, _ => .bad
abbrev rIsV : R2 := fun x y H Q => (y = .non ∧ Q (.bl (decide (x = .non))) H) ∨ rIsB x y H Q
abbrev rIsNotV : R2 := fun x y H Q => (y = .non ∧ Q (.bl (!decide (x = .non))) H) ∨ rNotB x y H Q
theorem op_isV : OpR X (compareOp .Is) rIsV := op_isN.or op_isBl
theorem op_isNotV : OpR X (compareOp .IsNot) rIsNotV := op_notN.or op_notBl
theorem rp_non_iff {H : Hp} {A : AP} {v : Val} {x : V} (h : Rp K H A v x) : decide (x = .non) = isNon v := by
  cases v
  case non => rw [rp_non] at h; subst h; rfl
  case bl => rw [rp_bl] at h; subst h; rfl
  case int => rw [rp_int] at h; subst h; rfl
  case str => rw [rp_str] at h; subst h; rfl
  case ty => rw [rp_ty] at h; subst h; rfl
  case glo => rw [rp_glo] at h; subst h; rfl
  case scr => rw [rp_scr] at h; obtain ⟨a, rfl, _⟩ := h; rfl
  case rng => rw [rp_rng] at h; obtain ⟨a, rfl, _⟩ := h; rfl
  case tup => rw [rp_tup] at h; obtain ⟨a, _, rfl, _⟩ := h; rfl
  case lst => rw [rp_lst] at h; obtain ⟨a, _, rfl, _⟩ := h; rfl
  case dK => rw [rp_dK] at h; obtain ⟨a, _, rfl, _⟩ := h; rfl
  case dT => rw [rp_dT] at h; obtain ⟨a, _, rfl, _⟩ := h; rfl
theorem s_is : OpS K rIsV oIs := by
  intro H A v w x y al hv hw
  cases w <;> try (cases v <;> exact bad_ans)
  case non =>
    rw [rp_non] at hw; subst hw
    have e := rp_non_iff hv
    have : oIs v .non = .ok (.bl (isNon v), false) := by cases v <;> rfl
    rw [this, ← e]
    exact ans_pure _ (fun _ => rp_bl.mpr rfl) fun Q q => .inl ⟨rfl, q⟩
  case bl b =>
    rw [rp_bl] at hw; subst hw
    cases v <;> try exact bad_ans
    case bl a => rw [rp_bl] at hv; subst hv; exact ans_pure _ (fun _ => rp_bl.mpr rfl) fun Q q => .inr ⟨a, b, rfl, rfl, q⟩
theorem s_isNot : OpS K rIsNotV oIsNot := by
  intro H A v w x y al hv hw
  cases w <;> try (cases v <;> exact bad_ans)
  case non =>
    rw [rp_non] at hw; subst hw
    have e := rp_non_iff hv
    have : oIsNot v .non = .ok (.bl (!isNon v), false) := by cases v <;> rfl
    rw [this, ← e]
    exact ans_pure _ (fun _ => rp_bl.mpr rfl) fun Q q => .inl ⟨rfl, q⟩
  case bl b =>
    rw [rp_bl] at hw; subst hw
    cases v <;> try exact bad_ans
    case bl a => rw [rp_bl] at hv; subst hv; exact ans_pure _ (fun _ => rp_bl.mpr rfl) fun Q q => .inr ⟨a, b, rfl, rfl, q⟩
end
end PV

namespace PV
open PySem PySem.Spec PyProof.Rows L2
open PySem.W (dataLt alike alikeAll lt_data gt_data le_data ge_data AlikeAll minD maxD)

/-- what is read of a datum: the container itself may be ours -/
def RdR (K : PySem.W.Frag) (H : Hp) (A : AP) : Val → V → Prop
  | .lst vs, x => ∃ a xs, x = .ref a ∧ H a = some (.lst xs) ∧ RpL K H A vs xs ∧ vs.length ≤ sizeLine
  | .dK vs, x => ∃ a xs, x = .ref a ∧ Rd H a (.dK xs) ∧ RpK K H A vs xs ∧ vs.length ≤ sizeLine
  | .dT vs, x => ∃ a xs, x = .ref a ∧ H a = some (.dT xs) ∧ RpT K H A vs xs ∧ vs.length ≤ sizeLine
  | v, x => Rp K H A v x
section
variable {K : PySem.W.Frag} {H : Hp} {A : AP}
theorem Rp.rdr {v : Val} {x : V} (h : Rp K H A v x) : RdR K H A v x := by
  cases v <;> try exact h
  case lst => rw [rp_lst] at h; obtain ⟨a, xs, e, _, r, l, z⟩ := h; exact ⟨a, xs, e, r, l, z⟩
  case dK => rw [rp_dK] at h; obtain ⟨a, xs, e, _, r, l, z⟩ := h; exact ⟨a, xs, e, r, l, z⟩
  case dT => rw [rp_dT] at h; obtain ⟨a, xs, e, _, r, l, z⟩ := h; exact ⟨a, xs, e, r, l, z⟩
theorem OwnAt.rdr {a : Addr} : ∀ {v : Val}, OwnAt K H A a v → RdR K H A v (.ref a)
  | .lst _, ⟨xs, h, l⟩ => ⟨a, xs, rfl, h, l⟩
  | .dK _, ⟨xs, h, l⟩ => ⟨a, xs, rfl, .inl h, l⟩
  | .dT _, ⟨xs, h, l⟩ => ⟨a, xs, rfl, h, l⟩
end

/-- a datum that may lack -/
def RpO (K : PySem.W.Frag) (H : Hp) (A : AP) : Option Val → Option V → Prop
  | some v, o => ∃ x, o = some x ∧ Rp K H A v x
  | none, o => o = none
/-! ### dicts -/
section
variable {κ : Type} [DecidableEq κ]
def getK (kvs : List (κ × Val)) (k : κ) : Option Val := (kvs.find? fun kv => decide (kv.1 = k)).map (·.2)
def putV (kvs : List (κ × Val)) (k : κ) (v : Val) : List (κ × Val) :=
  if (kvs.any fun kv => decide (kv.1 = k)) = true then kvs.map (fun kv => if kv.1 = k then (kv.1, v) else kv) else kvs ++ [(k, v)]
end
def toKey : Val → Option Key
  | .int i => some (.inl i)
  | .str s => some (.inr s)
  | _ => none
def toKeys : List Val → Option (List Key)
  | [] => some []
  | v :: vs => match toKey v, toKeys vs with
    | some k, some ks => some (k :: ks)
    | _, _ => none
section
variable {K : PySem.W.Frag} {H : Hp} {A : AP}
theorem rpk_nil {xs} : RpK K H A [] xs ↔ xs = [] := by rw [RpK]
theorem rpk_cc {k : Key} {v : Val} {vs xs} : RpK K H A ((k, v) :: vs) xs ↔ ∃ x r, xs = (k, x) :: r ∧ Rp K H A v x ∧ RpK K H A vs r := by rw [RpK]
theorem rpt_nil {xs} : RpT K H A [] xs ↔ xs = [] := by rw [RpT]
theorem rpt_cc {k : List Key} {v : Val} {vs xs} : RpT K H A ((k, v) :: vs) xs ↔ ∃ x r, xs = (k, x) :: r ∧ Rp K H A v x ∧ RpT K H A vs r := by rw [RpT]
theorem RpK.length : ∀ {vs : List (Key × Val)} {xs : List (Key × V)}, RpK K H A vs xs → xs.length = vs.length
  | [], xs, h => by rw [rpk_nil] at h; subst h; rfl
  | (k, v) :: vs, xs, h => by
    rw [rpk_cc] at h; obtain ⟨x, r, rfl, _, h2⟩ := h
    simp [RpK.length h2]
theorem RpT.length : ∀ {vs : List (List Key × Val)} {xs : List (List Key × V)}, RpT K H A vs xs → xs.length = vs.length
  | [], xs, h => by rw [rpt_nil] at h; subst h; rfl
  | (k, v) :: vs, xs, h => by
    rw [rpt_cc] at h; obtain ⟨x, r, rfl, _, h2⟩ := h
    simp [RpT.length h2]
theorem RpK.get (k : Key) : ∀ {vs : List (Key × Val)} {xs : List (Key × V)}, RpK K H A vs xs → RpO K H A (getK vs k) (valV xs k)
  | [], xs, h => by rw [rpk_nil] at h; subst h; rfl
  | (j, v) :: vs, xs, h => by
    rw [rpk_cc] at h; obtain ⟨x, r, rfl, h1, h2⟩ := h
    by_cases e : j = k
    · subst e
      have : getK ((j, v) :: vs) j = some v := by simp [getK]
      rw [this]
      exact ⟨x, by simp [valV], h1⟩
    · have e1 : getK ((j, v) :: vs) k = getK vs k := by simp [getK, List.find?_cons, e]
      have e2 : valV ((j, x) :: r) k = valV r k := valV_neg e
      rw [e1, e2]
      exact RpK.get k h2
theorem RpT.get (k : List Key) : ∀ {vs : List (List Key × Val)} {xs : List (List Key × V)}, RpT K H A vs xs → RpO K H A (getK vs k) (valV xs k)
  | [], xs, h => by rw [rpt_nil] at h; subst h; rfl
  | (j, v) :: vs, xs, h => by
    rw [rpt_cc] at h; obtain ⟨x, r, rfl, h1, h2⟩ := h
    by_cases e : j = k
    · subst e
      have : getK ((j, v) :: vs) j = some v := by simp [getK]
      rw [this]
      exact ⟨x, by simp [valV], h1⟩
    · have e1 : getK ((j, v) :: vs) k = getK vs k := by simp [getK, List.find?_cons, e]
      have e2 : valV ((j, x) :: r) k = valV r k := valV_neg e
      rw [e1, e2]
      exact RpT.get k h2
theorem RpK.keys : ∀ {vs : List (Key × Val)} {xs : List (Key × V)}, RpK K H A vs xs → xs.map (·.1) = vs.map (·.1)
  | [], xs, h => by rw [rpk_nil] at h; subst h; rfl
  | (k, v) :: vs, xs, h => by
    rw [rpk_cc] at h; obtain ⟨x, r, rfl, _, h2⟩ := h
    simp [RpK.keys h2]
theorem RpT.keys : ∀ {vs : List (List Key × Val)} {xs : List (List Key × V)}, RpT K H A vs xs → xs.map (·.1) = vs.map (·.1)
  | [], xs, h => by rw [rpt_nil] at h; subst h; rfl
  | (k, v) :: vs, xs, h => by
    rw [rpt_cc] at h; obtain ⟨x, r, rfl, _, h2⟩ := h
    simp [RpT.keys h2]
theorem any_keys {κ α β : Type} [DecidableEq κ] {vs : List (κ × α)} {xs : List (κ × β)} (h : xs.map (·.1) = vs.map (·.1)) (k : κ) : (xs.any fun kv => decide (kv.1 = k)) = (vs.any fun kv => decide (kv.1 = k)) := by
  have a : ∀ {γ : Type} (l : List (κ × γ)), (l.any fun kv => decide (kv.1 = k)) = (l.map (·.1)).any fun j => decide (j = k) := fun l => by rw [List.any_map]; rfl
  rw [a, a, h]
theorem RpK.map (k : Key) {w : Val} {y : V} (q : Rp K H A w y) : ∀ {vs : List (Key × Val)} {xs : List (Key × V)}, RpK K H A vs xs →
    RpK K H A (vs.map (fun kv => if kv.1 = k then (kv.1, w) else kv)) (xs.map (fun kv => if kv.1 = k then (kv.1, y) else kv))
  | [], xs, h => by rw [rpk_nil] at h; subst h; exact rpk_nil.mpr rfl
  | (j, v) :: vs, xs, h => by
    rw [rpk_cc] at h; obtain ⟨x, r, rfl, h1, h2⟩ := h
    have ih := RpK.map k q h2
    simp only [List.map_cons]
    by_cases e : j = k
    · rw [if_pos e, if_pos e]; exact rpk_cc.mpr ⟨y, _, rfl, q, ih⟩
    · rw [if_neg e, if_neg e]; exact rpk_cc.mpr ⟨x, _, rfl, h1, ih⟩
theorem RpT.map (k : List Key) {w : Val} {y : V} (q : Rp K H A w y) : ∀ {vs : List (List Key × Val)} {xs : List (List Key × V)}, RpT K H A vs xs →
    RpT K H A (vs.map (fun kv => if kv.1 = k then (kv.1, w) else kv)) (xs.map (fun kv => if kv.1 = k then (kv.1, y) else kv))
  | [], xs, h => by rw [rpt_nil] at h; subst h; exact rpt_nil.mpr rfl
  | (j, v) :: vs, xs, h => by
    rw [rpt_cc] at h; obtain ⟨x, r, rfl, h1, h2⟩ := h
    have ih := RpT.map k q h2
    simp only [List.map_cons]
    by_cases e : j = k
    · rw [if_pos e, if_pos e]; exact rpt_cc.mpr ⟨y, _, rfl, q, ih⟩
    · rw [if_neg e, if_neg e]; exact rpt_cc.mpr ⟨x, _, rfl, h1, ih⟩
theorem RpK.app {k : Key} {w : Val} {y : V} (q : Rp K H A w y) : ∀ {vs : List (Key × Val)} {xs : List (Key × V)}, RpK K H A vs xs → RpK K H A (vs ++ [(k, w)]) (xs ++ [(k, y)])
  | [], xs, h => by rw [rpk_nil] at h; subst h; exact rpk_cc.mpr ⟨y, [], rfl, q, rpk_nil.mpr rfl⟩
  | (j, v) :: vs, xs, h => by
    rw [rpk_cc] at h; obtain ⟨x, r, rfl, h1, h2⟩ := h
    exact rpk_cc.mpr ⟨x, _, rfl, h1, RpK.app q h2⟩
theorem RpT.app {k : List Key} {w : Val} {y : V} (q : Rp K H A w y) : ∀ {vs : List (List Key × Val)} {xs : List (List Key × V)}, RpT K H A vs xs → RpT K H A (vs ++ [(k, w)]) (xs ++ [(k, y)])
  | [], xs, h => by rw [rpt_nil] at h; subst h; exact rpt_cc.mpr ⟨y, [], rfl, q, rpt_nil.mpr rfl⟩
  | (j, v) :: vs, xs, h => by
    rw [rpt_cc] at h; obtain ⟨x, r, rfl, h1, h2⟩ := h
    exact rpt_cc.mpr ⟨x, _, rfl, h1, RpT.app q h2⟩
theorem RpK.put (k : Key) {w : Val} {y : V} (q : Rp K H A w y) {vs : List (Key × Val)} {xs : List (Key × V)} (h : RpK K H A vs xs) : RpK K H A (putV vs k w) (putK xs k y) := by
  unfold putV putK
  rw [any_keys (RpK.keys h)]
  split
  · exact RpK.map k q h
  · exact RpK.app q h
theorem RpT.put (k : List Key) {w : Val} {y : V} (q : Rp K H A w y) {vs : List (List Key × Val)} {xs : List (List Key × V)} (h : RpT K H A vs xs) : RpT K H A (putV vs k w) (putK xs k y) := by
  unfold putV putK
  rw [any_keys (RpT.keys h)]
  split
  · exact RpT.map k q h
  · exact RpT.app q h
theorem toKey_rp {v : Val} {x : V} {k : Key} (e : toKey v = some k) (h : Rp K H A v x) : x = kV k := by
  cases v <;> simp [toKey] at e <;> subst e
  · rw [rp_int] at h; exact h
  · rw [rp_str] at h; exact h
theorem toKeys_rp : ∀ {vs : List Val} {xs : List V} {ks : List Key}, toKeys vs = some ks → RpL K H A vs xs → xs = ks.map kV
  | [], xs, ks, e, h => by rw [rpl_nil] at h; subst h; simp [toKeys] at e; subst e; rfl
  | v :: vs, xs, ks, e, h => by
    rw [rpl_cons] at h; obtain ⟨x, r, rfl, h1, h2⟩ := h
    unfold toKeys at e
    cases e1 : toKey v with
    | none => rw [e1] at e; cases e
    | some k =>
      cases e2 : toKeys vs with
      | none => rw [e1, e2] at e; cases e
      | some ks' =>
        rw [e1, e2] at e
        cases e
        rw [toKey_rp e1 h1, toKeys_rp e2 h2]; rfl

/-- d[k], asked -/
def oDget : Val → Val → Res (Option Val)
  | .dK kvs, k => match toKey k with
    | some k => .ok (getK kvs k)
    | none => .bad
  | .dT kvs, .tup ks => match toKeys ks with
    | some ks => .ok (getK kvs ks)
    | none => .bad
  | _, _ => .bad
theorem oDget_ok {d k : Val} {x y : V} {r : Option Val} (h : oDget d k = .ok r) (hd : RdR K H A d x) (hk : Rp K H A k y) : ∃ a o, x = .ref a ∧ DGet H a y o ∧ RpO K H A r o := by
  cases d <;> try (cases h)
  case dK kvs =>
    obtain ⟨a, xs, rfl, ha, l, z⟩ := hd
    change (match toKey k with | some k => Res.ok (getK kvs k) | none => .bad) = _ at h
    cases e : toKey k with
    | none => rw [e] at h; cases h
    | some j =>
      rw [e] at h; cases h
      exact ⟨a, valV xs j, rfl, .inl ⟨xs, j, ha, toKey_rp e hk, rfl⟩, RpK.get j l⟩
  case dT kvs =>
    cases k <;> try (cases h)
    rename_i ks
    obtain ⟨a, xs, rfl, ha, l, z⟩ := hd
    rw [rp_tup] at hk
    obtain ⟨b, ys, rfl, _, hb, l2, _⟩ := hk
    change (match toKeys ks with | some k => Res.ok (getK kvs k) | none => .bad) = _ at h
    cases e : toKeys ks with
    | none => rw [e] at h; cases h
    | some j =>
      rw [e] at h; cases h
      have ey := toKeys_rp e l2
      subst ey
      exact ⟨a, valV xs j, rfl, .inr ⟨xs, j, b, .inl ha, rfl, hb, rfl⟩, RpT.get j l⟩
end

/-! ### o[i] -/
def rIxD : R2 := fun x y H Q => ∃ a v, x = .ref a ∧ DGet H a y (some v) ∧ Q v H
theorem ix_dict {X : Cx} (hu : X.A.units + 1 < cLine) : IxR X rIxD := by
  intro value slice pins s σ H x y v u Q I rx ry h hs
  obtain ⟨a, w, rfl, g, q⟩ := h
  obtain rfl : v = Value.ref a := rx
  have hT := dict_typeIs I g
  unfold subscriptTail
  refine wpAny_bind ?_
  rw [getitemInPython_of_ne hT.not_modules]
  refine wpAny_bind (wpAny_specialOf hT PySem.F.slot_dict_getitem.lookup ?_)
  have fin : wpAny (model X.prog X.w) X.A (subscripted slice false (.ref a) u) (fun r s₃ => wpAny (model X.prog X.w) X.A (letTemporaryGo value (.ref a) r >>= fun _ => pure r) (EP X pins σ Q) X.xe s₃) X.xe s := by
    rw [hs]
    exact wpAny_operating (d_getItem hu I g ry fun w' s3 I3 rw' => wpAny_bind (wpAny_letTemporaryGo (wpAny_pure ⟨w, H, I3, rw', q⟩)))
  first
    | exact wpAny_pure (wpAny_bind fin)
    | exact wpAny_bind (wpAny_pure (wpAny_bind fin))
    | exact wpAny_bind fin
abbrev rIxV (K : PySem.W.Frag) : R2 := fun x y H Q => rIx K x y H Q ∨ rIxD x y H Q
theorem ix_V {X : Cx} (hu : X.A.units + 1 < cLine) : IxR X (rIxV X.K) := ix_seq.or (ix_dict hu)
def oIx : Val → Val → Res (Val × Bool)
  | .lst vs, .int i => match atI vs i with
    | some v => .ok (v, false)
    | none => .bad
  | .tup vs, .int i => match atI vs i with
    | some v => .ok (v, false)
    | none => .bad
  | .str s, .int i => if s.length ≤ sizeLine then (match atI s.cps.toList i with
    | some c => .ok (.str ⟨#[c]⟩, false)
    | none => .bad) else .bad
  | .dK kvs, k => match oDget (.dK kvs) k with
    | .ok (some v) => .ok (v, false)
    | _ => .bad
  | .dT kvs, k => match oDget (.dT kvs) k with
    | .ok (some v) => .ok (v, false)
    | _ => .bad
  | _, _ => .bad
/-- a rule of values, its first value read -/
def OpSR (K : PySem.W.Frag) (r : R2) (f : Val → Val → Res (Val × Bool)) : Prop :=
  ∀ H A v w x y, (∀ a, A a → H a ≠ none) → RdR K H A v x → Rp K H A w y → Ans K H A (r x y) (f v w)
theorem OpSR.ops {K : PySem.W.Frag} {r : R2} {f : Val → Val → Res (Val × Bool)} (h : OpSR K r f) : OpS K r f := fun H A v w x y al hv hw => h H A v w x y al hv.rdr hw
section
variable {K : PySem.W.Frag} {H : Hp} {A : AP}
theorem RpL.atI {vs : List Val} {xs : List V} {i : Int} {v : Val} (h : RpL K H A vs xs) (e : L2.atI vs i = some v) : ∃ x, L2.atI xs i = some x ∧ Rp K H A v x := by
  unfold L2.atI at e ⊢
  rw [h.length]
  cases q : ixN vs.length i with
  | none => rw [q] at e; cases e
  | some j => rw [q] at e; exact h.get e
theorem ans_read {r : Hp → VK → Prop} {u : Val} {x : V} (hx : Rp K H A u x) (h : ∀ Q : VK, Q x H → r H Q) : Ans K H A r (.ok (u, false)) := fun Q q => h Q (q x H (fun _ _ e => e) hx)
theorem s_ix : OpSR K (rIxV K) oIx := by
  intro H A v w x y al hv hw
  cases v <;> try (cases w <;> exact bad_ans)
  case lst vs =>
    cases w <;> try exact bad_ans
    rename_i i
    rw [rp_int] at hw; subst hw
    obtain ⟨a, xs, rfl, ha, l, z⟩ := hv
    show Ans _ _ _ _ (match atI vs i with | some v => _ | none => _)
    cases e : atI vs i with
    | none => exact bad_ans
    | some v =>
      obtain ⟨z, e2, r⟩ := l.atI e
      exact ans_read r fun Q q => .inl (.inl ⟨a, xs, i, z, rfl, rfl, SqL.of ha, e2, q⟩)
  case tup vs =>
    cases w <;> try exact bad_ans
    rename_i i
    rw [rp_int] at hw; subst hw
    have hv : Rp K H A (.tup vs) x := hv
    rw [rp_tup] at hv
    obtain ⟨a, xs, rfl, _, ha, l, z⟩ := hv
    show Ans _ _ _ _ (match atI vs i with | some v => _ | none => _)
    cases e : atI vs i with
    | none => exact bad_ans
    | some v =>
      obtain ⟨z, e2, r⟩ := l.atI e
      exact ans_read r fun Q q => .inl (.inr (.inl ⟨a, xs, i, z, rfl, rfl, SqT.of ha, e2, q⟩))
  case str s =>
    cases w <;> try exact bad_ans
    rename_i i
    rw [rp_int] at hw; subst hw
    have hv : Rp K H A (.str s) x := hv
    rw [rp_str] at hv; subst hv
    show Ans _ _ _ _ (if s.length ≤ sizeLine then (match atI s.cps.toList i with | some c => _ | none => _) else _)
    split
    · rename_i hl
      cases e : atI s.cps.toList i with
      | none => exact bad_ans
      | some c => exact ans_pure (.str ⟨#[c]⟩) (fun _ => rp_str.mpr rfl) fun Q q => .inl (.inr (.inr ⟨s, i, c, rfl, rfl, hl, e, q⟩))
    · exact bad_ans
  case dK kvs =>
    have e0 : oIx (.dK kvs) w = match oDget (.dK kvs) w with | .ok (some v) => .ok (v, false) | _ => .bad := by cases w <;> rfl
    rw [e0]
    cases e : oDget (.dK kvs) w with
    | bad => exact bad_ans
    | exc _ _ => exact bad_ans
    | ok r =>
      obtain ⟨a, o, ex, g, z⟩ := oDget_ok e hv hw
      cases r with
      | none => exact bad_ans
      | some v =>
        obtain ⟨z, rfl, r⟩ := z
        exact ans_read r fun Q q => .inr ⟨a, z, ex, g, q⟩
  case dT kvs =>
    have e0 : oIx (.dT kvs) w = match oDget (.dT kvs) w with | .ok (some v) => .ok (v, false) | _ => .bad := by cases w <;> rfl
    rw [e0]
    cases e : oDget (.dT kvs) w with
    | bad => exact bad_ans
    | exc _ _ => exact bad_ans
    | ok r =>
      obtain ⟨a, o, ex, g, z⟩ := oDget_ok e hv hw
      cases r with
      | none => exact bad_ans
      | some v =>
        obtain ⟨z, rfl, r⟩ := z
        exact ans_read r fun Q q => .inr ⟨a, z, ex, g, q⟩
end
/-- name[b]: the name's container is read behind b -/
def dIxS (i : Nat) (db : ED) : ED := fun env => match env[i]? with
  | none | some .emp => .bad
  | _ => db env >>= fun b => match b.2.2[i]? with
    | some (.frz v) | some (.own v) => oIx v b.1 >>= fun z => .ok (z.1, z.2, b.2.2)
    | _ => .bad
theorem RelEnv.rdr {K : PySem.W.Frag} {H : Hp} {P M : AP} {σ : L2.St} {env : EnvD} {i : Nat} {v : Val} (R : RelEnv K H P M σ env) (h : env[i]? = some (.frz v) ∨ env[i]? = some (.own v)) : ∃ x, σ[i]? = some (some x) ∧ RdR K H (or' P M) v x := by
  rcases h with h | h
  · obtain ⟨x, e, r⟩ := R.slot i _ h; exact ⟨x, e, r.rdr⟩
  · obtain ⟨a, e, _, r⟩ := R.slot i _ h; exact ⟨_, e, r.rdr⟩
section
variable {X : Cx} {G : Cfg} {a b : Expr} {da db : ED} {pos : Pos}
theorem se_ix (hu : X.A.units + 1 < cLine) (hK : X.K = G.K) (ha : PE X a (tE G da)) (hb : PE X b (tE G db)) (hs : PlainIx b) : PE X (.Subscript a b pos) (tE G (dBin oIx da db)) :=
  (pe_ix (ix_V hu) ha hb hs).pv fun σ H Q h => by rw [hK]; exact tE_bin s_ix.ops h
theorem se_ixS {i : Nat} (hu : X.A.units + 1 < cLine) (hK : X.K = G.K) (ha : PE X a (tVar i)) (hb : PE X b (tE G db)) (hs : PlainIx b) : PE X (.Subscript a b pos) (tE G (dIxS i db)) :=
  (pe_ix (ix_V hu) ha hb hs).pv fun σ H Q h => by
    rw [hK]
    obtain ⟨M, env, R, p⟩ := h
    unfold dIxS at p
    have key : ∀ v, (env[i]? = some (.frz v) ∨ env[i]? = some (.own v)) → Post G M H (okE G σ Q) (db env >>= fun b => match b.2.2[i]? with
        | some (.frz v) | some (.own v) => oIx v b.1 >>= fun z => .ok (z.1, z.2, b.2.2)
        | _ => .bad) → tOp (rIxV G.K) (tVar i) (tE G db) σ H Q := fun v hv p => by
      obtain ⟨x0, e0, _⟩ := R.rdr hv
      refine ⟨x0, e0, ?_⟩
      refine Post.bindF R p fun w o e2 y M2 H2 x2 R2 r2 p2 => ?_
      have fin : ∀ v, (e2[i]? = some (.frz v) ∨ e2[i]? = some (.own v)) → Post G M2 H2 (okE G σ Q) (oIx v w >>= fun z => .ok (z.1, z.2, e2)) → rIxV G.K x0 y H2 Q := fun v hv p => by
        obtain ⟨x, e, r⟩ := R2.rdr hv
        have e := e.symm.trans e0
        cases e
        exact fin_ans R2 (s_ix H2 _ v w x0 y R2.al r r2) p
      simp only at p2
      split at p2
      · rename_i v h; exact fin v (.inl h) p2
      · rename_i v h; exact fin v (.inr h) p2
      · exact p2.elim
    split at p
    · exact p.elim
    · exact p.elim
    · rename_i t h1 h2
      cases q : env[i]? with
      | none => exact (h1 q).elim
      | some t =>
        cases t with
        | emp => exact (h2 q).elim
        | frz v => exact key v (.inl q) p
        | own v => exact key v (.inr q) p
end
end PV

namespace PV
open PySem PySem.Spec PyProof.Rows L2
open PySem.W (dataLt alike alikeAll lt_data gt_data le_data ge_data AlikeAll minD maxD)

/-! ### in, not in -/
def rInV (K : PySem.W.Frag) (g : Bool → Bool) : R2 := fun x y H Q =>
  (∃ d ds, Dp K H x d ∧ (Dp K H y (.list ds) ∨ Dp K H y (.tuple ds)) ∧ SeqAt.shaped d = true ∧ PyData.canLayAll0 ds = true ∧ Q (.bl (g (ds.any fun z => PyData.eqv z d))) H) ∨
  (∃ a o, y = .ref a ∧ DGet H a x o ∧ Q (.bl (g o.isSome)) H) ∨ (∃ (c : Nat) (z : Str), x = .str ⟨#[c]⟩ ∧ y = .str z ∧ Q (.bl (g (decide (c ∈ z.cps.toList)))) H)
theorem room_dep {A : Around} {ds : List PyData} {d : PyData} (h : SeqAt.shaped d = true) (hu : A.units + 65 < cLine) : A.units + 1 + min (PyData.depthAll ds) d.depth < cLine := by
  have := SeqAt.depth_of_shaped h
  have h2 : min (PyData.depthAll ds) d.depth ≤ d.depth := Nat.min_le_right _ _
  omega
theorem op_inV {X : Cx} (hu : X.A.units + 65 < cLine) : OpR X (compareOp .In) (rInV X.K id) := by
  intro pins s σ H x y v u Q I rx ry h
  rcases h with ⟨d, ds, hd, he, sd, se, q⟩ | ⟨a, o, rfl, g, q⟩ | h
  · obtain ⟨as, r1⟩ := Dp.reads I d x v hd rx
    rcases he with he | he
    · obtain ⟨bs, r2⟩ := Dp.reads I (.list ds) y u he ry
      exact SeqAt.in_list_reads r2 r1 se (SeqAt.canLay_of_shaped sd) (room_dep sd hu) ⟨.bl _, H, I, rfl, q⟩
    · obtain ⟨bs, r2⟩ := Dp.reads I (.tuple ds) y u he ry
      exact SeqAt.in_tuple_reads r2 r1 se (SeqAt.canLay_of_shaped sd) (room_dep sd hu) ⟨.bl _, H, I, rfl, q⟩
  · obtain rfl : u = Value.ref a := ry
    exact d_in (by omega) I g rx fun s3 I3 => ⟨.bl o.isSome, H, I3, rfl, q⟩
  · exact op_in_sign pins s σ H x y v u Q I rx ry h
theorem op_notInV {X : Cx} (hu : X.A.units + 65 < cLine) : OpR X (compareOp .NotIn) (rInV X.K not) := by
  intro pins s σ H x y v u Q I rx ry h
  rcases h with ⟨d, ds, hd, he, sd, se, q⟩ | ⟨a, o, rfl, g, q⟩ | h
  · obtain ⟨as, r1⟩ := Dp.reads I d x v hd rx
    rcases he with he | he
    · obtain ⟨bs, r2⟩ := Dp.reads I (.list ds) y u he ry
      exact SeqAt.notIn_list_reads r2 r1 se (SeqAt.canLay_of_shaped sd) (room_dep sd hu) ⟨.bl _, H, I, rfl, q⟩
    · obtain ⟨bs, r2⟩ := Dp.reads I (.tuple ds) y u he ry
      exact SeqAt.notIn_tuple_reads r2 r1 se (SeqAt.canLay_of_shaped sd) (room_dep sd hu) ⟨.bl _, H, I, rfl, q⟩
  · obtain rfl : u = Value.ref a := ry
    exact d_notIn (by omega) I g rx fun s3 I3 => ⟨.bl (!o.isSome), H, I3, rfl, q⟩
  · exact op_notIn_sign pins s σ H x y v u Q I rx ry h
def sign1 (s : Str) : Option Nat := match s.cps.toList with
  | [c] => some c
  | _ => none
theorem sign1_eq {s : Str} {c : Nat} (h : sign1 s = some c) : s = ⟨#[c]⟩ := by
  unfold sign1 at h
  split at h
  · rename_i e
    cases h
    obtain ⟨l⟩ := s
    simp only at e
    congr
    exact Array.toList_inj.mp (by simpa using e)
  · cases h
/-- x in c, c read -/
def oInB : Val → Val → Res Bool
  | v, .lst ws => if okV v && PyData.canLayAll0 (toDs ws) then .ok (ws.any fun z => eqV z v) else .bad
  | v, .tup ws => if okV v && PyData.canLayAll0 (toDs ws) then .ok (ws.any fun z => eqV z v) else .bad
  | .str s, .str t => match sign1 s with
    | some c => .ok (decide (c ∈ t.cps.toList))
    | none => .bad
  | v, .dK kvs => oDget (.dK kvs) v >>= fun r => .ok r.isSome
  | v, .dT kvs => oDget (.dT kvs) v >>= fun r => .ok r.isSome
  | _, _ => .bad
def oIn (v w : Val) : Res (Val × Bool) := oInB v w >>= fun b => .ok (.bl b, false)
def oNotIn (v w : Val) : Res (Val × Bool) := oInB v w >>= fun b => .ok (.bl (!b), false)
/-- a rule of values, its second value read -/
def OpSR2 (K : PySem.W.Frag) (r : R2) (f : Val → Val → Res (Val × Bool)) : Prop :=
  ∀ H A v w x y, (∀ a, A a → H a ≠ none) → Rp K H A v x → RdR K H A w y → Ans K H A (r x y) (f v w)
theorem OpSR2.ops {K : PySem.W.Frag} {r : R2} {f : Val → Val → Res (Val × Bool)} (h : OpSR2 K r f) : OpS K r f := fun H A v w x y al hv hw => h H A v w x y al hv hw.rdr
theorem s_inB {K : PySem.W.Frag} {g : Bool → Bool} : OpSR2 K (rInV K g) (fun v w => oInB v w >>= fun b => .ok (.bl (g b), false)) := by
  intro H A v w x y al hv hw
  cases w <;> try (cases v <;> exact bad_ans)
  case lst ws =>
    have e : oInB v (.lst ws) = if okV v && PyData.canLayAll0 (toDs ws) then .ok (ws.any fun z => eqV z v) else .bad := by cases v <;> rfl
    simp only [e]
    split
    · rename_i h
      rw [Bool.and_eq_true] at h
      obtain ⟨a, xs, rfl, ha, l, z⟩ := hw
      refine ans_pure _ (fun _ => rp_bl.mpr rfl) fun Q q => .inl ⟨_, _, Rp.dp v x (SeqAt.canLay_of_shaped h.1) hv, .inl (.lst (SqL.of ha) (RpL.dp ws xs h.2 l)), h.1, h.2, ?_⟩
      rw [toDs_map, List.any_map]; exact q
    · exact bad_ans
  case tup ws =>
    have e : oInB v (.tup ws) = if okV v && PyData.canLayAll0 (toDs ws) then .ok (ws.any fun z => eqV z v) else .bad := by cases v <;> rfl
    simp only [e]
    split
    · rename_i h
      rw [Bool.and_eq_true] at h
      have hw : Rp K H A (.tup ws) y := hw
      rw [rp_tup] at hw
      obtain ⟨a, xs, rfl, _, ha, l, z⟩ := hw
      refine ans_pure _ (fun _ => rp_bl.mpr rfl) fun Q q => .inl ⟨_, _, Rp.dp v x (SeqAt.canLay_of_shaped h.1) hv, .inr (.tup (SqT.of ha) (RpL.dp ws xs h.2 l)), h.1, h.2, ?_⟩
      rw [toDs_map, List.any_map]; exact q
    · exact bad_ans
  case str t =>
    cases v <;> try exact bad_ans
    rename_i s
    have hw : Rp K H A (.str t) y := hw
    rw [rp_str] at hw hv; subst hw hv
    show Ans _ _ _ _ ((match sign1 s with | some c => Res.ok (decide (c ∈ t.cps.toList)) | none => .bad) >>= _)
    cases e : sign1 s with
    | none => exact bad_ans
    | some c => exact ans_pure _ (fun _ => rp_bl.mpr rfl) fun Q q => .inr (.inr ⟨c, t, by rw [sign1_eq e], rfl, q⟩)
  case dK kvs =>
    have e0 : oInB v (.dK kvs) = oDget (.dK kvs) v >>= fun r => .ok r.isSome := by cases v <;> rfl
    simp only [e0]
    cases e : oDget (.dK kvs) v with
    | bad => exact bad_ans
    | exc c p => cases v <;> simp [oDget, toKey] at e
    | ok r =>
      obtain ⟨a, o, ex, g', z⟩ := oDget_ok e hw hv
      refine ans_pure (.bl (g r.isSome)) (fun _ => rp_bl.mpr rfl) fun Q q => .inr (.inl ⟨a, o, ex, g', ?_⟩)
      have : o.isSome = r.isSome := by cases r with
        | none => rw [show o = none from z]; rfl
        | some v => obtain ⟨z, rfl, _⟩ := z; rfl
      rw [this]; exact q
  case dT kvs =>
    have e0 : oInB v (.dT kvs) = oDget (.dT kvs) v >>= fun r => .ok r.isSome := by cases v <;> rfl
    simp only [e0]
    cases e : oDget (.dT kvs) v with
    | bad => exact bad_ans
    | exc c p =>
      cases v <;> simp [oDget] at e
      split at e <;> simp at e
    | ok r =>
      obtain ⟨a, o, ex, g', z⟩ := oDget_ok e hw hv
      refine ans_pure (.bl (g r.isSome)) (fun _ => rp_bl.mpr rfl) fun Q q => .inr (.inl ⟨a, o, ex, g', ?_⟩)
      have : o.isSome = r.isSome := by cases r with
        | none => rw [show o = none from z]; rfl
        | some v => obtain ⟨z, rfl, _⟩ := z; rfl
      rw [this]; exact q
theorem s_in {K : PySem.W.Frag} : OpSR2 K (rInV K id) oIn := s_inB
theorem s_notIn {K : PySem.W.Frag} : OpSR2 K (rInV K not) oNotIn := s_inB
/-- a op name: the name's container is read behind a -/
def dRS (f : Val → Val → Res (Val × Bool)) (da : ED) (i : Nat) : ED := fun env => da env >>= fun a => match a.2.2[i]? with
  | some (.frz v) | some (.own v) => f a.1 v >>= fun z => .ok (z.1, z.2, a.2.2)
  | _ => .bad
section
variable {X : Cx} {G : Cfg} {a b : Expr} {da db : ED} {pos : Pos}
theorem tE_RS {r : R2} {f : Val → Val → Res (Val × Bool)} {i : Nat} (hs : OpSR2 G.K r f) {σ : L2.St} {H : Hp} {Q : VK} (h : tE G (dRS f da i) σ H Q) : tOp r (tE G da) (tVar i) σ H Q := by
  obtain ⟨M, env, R, p⟩ := h
  refine Post.bindF R p fun v o e1 x M1 H1 x1 R1 r1 p1 => ?_
  have fin : ∀ w, (e1[i]? = some (.frz w) ∨ e1[i]? = some (.own w)) → Post G M1 H1 (okE G σ Q) (f v w >>= fun z => .ok (z.1, z.2, e1)) → tVar i σ H1 (fun y H2 => r x y H2 Q) := fun w hw p => by
    obtain ⟨y, e, rr⟩ := R1.rdr hw
    exact ⟨y, e, fin_ans R1 (hs H1 _ v w x y R1.al r1 rr) p⟩
  simp only at p1
  split at p1
  · rename_i v h; exact fin v (.inl h) p1
  · rename_i v h; exact fin v (.inr h) p1
  · exact p1.elim
theorem se_cmpS {op : CmpOp} {r : R2} {f : Val → Val → Res (Val × Bool)} {i : Nat} (ho : OpR X (compareOp op) r) (hs : OpSR2 G.K r f) (ha : PE X a (tE G da)) (hb : PE X b (tVar i)) (hm : behindInMarks op b = false) : PE X (.Compare a [op] [b] pos) (tE G (dRS f da i)) :=
  (pe_cmpR ho ha hb hm).pv fun σ H Q h => tE_RS hs h
end

/-! ### tests -/
abbrev TD := EnvD → Res (Bool × EnvD)
def okT (G : Cfg) (σ : L2.St) (Q : Bool → Hp → Prop) : Bool × EnvD → AP → Hp → Prop := fun r M H => RelEnv G.K H G.P M σ r.2 → Q r.1 H
def tT (G : Cfg) (d : TD) : TT := fun σ H Q => ∃ M env, RelEnv G.K H G.P M σ env ∧ Post G M H (okT G σ Q) (d env)
/-- a value that is a truth value, as a test -/
def dTB (d : ED) : TD := fun env => d env >>= fun a => match a.1 with
  | .bl b => .ok (b, a.2.2)
  | _ => .bad
def truV : Val → Option Bool
  | .non => some false
  | .bl b => some b
  | .int i => some (i != 0)
  | .str s => if s.length ≤ sizeLine then some ((s.length : Int) != 0) else none
  | .tup vs => some (!vs.isEmpty)
  | .lst vs => some (!vs.isEmpty)
  | _ => none
def dTru (d : ED) : TD := fun env => d env >>= fun a => match truV a.1 with
  | some b => .ok (b, a.2.2)
  | none => .bad
def dTruS (i : Nat) : TD := fun env => match env[i]? with
  | some (.frz v) | some (.own v) => (match truV v with
    | some b => .ok (b, env)
    | none => .bad)
  | _ => .bad
def dAndT (d e : TD) : TD := fun env => d env >>= fun r => if r.1 then e r.2 else .ok (false, r.2)
def dOrT (d e : TD) : TD := fun env => d env >>= fun r => if r.1 then .ok (true, r.2) else e r.2
def dNotT (d : TD) : TD := fun env => d env >>= fun r => .ok (!r.1, r.2)
def dIf (t : TD) (d e : ED) : ED := fun env => t env >>= fun r => if r.1 then d r.2 else e r.2
def dAndV (d e : ED) : ED := fun env => d env >>= fun a => match a.1 with
  | .bl true => e a.2.2
  | .bl false => .ok (.bl false, false, a.2.2)
  | _ => .bad
def dOrV (d e : ED) : ED := fun env => d env >>= fun a => match a.1 with
  | .bl false => e a.2.2
  | .bl true => .ok (.bl true, false, a.2.2)
  | _ => .bad
def oNot : Val → Res (Val × Bool)
  | .bl b => .ok (.bl (!b), false)
  | _ => .bad
theorem isEmpty_len {α β : Type} {xs : List α} {ys : List β} (h : xs.length = ys.length) : xs.isEmpty = ys.isEmpty := by
  cases xs <;> cases ys <;> simp at h ⊢
theorem tru_of {K : PySem.W.Frag} {H : Hp} {A : AP} {v : Val} {x : V} {b : Bool} (h : RdR K H A v x) (e : truV v = some b) : TruV K x H b := by
  cases v <;> simp only [truV] at e <;> try (cases e; done)
  case non => cases e; have h : Rp K H A .non x := h; rw [rp_non] at h; subst h; rfl
  case bl => cases e; have h : Rp K H A (.bl _) x := h; rw [rp_bl] at h; subst h; rfl
  case int => cases e; have h : Rp K H A (.int _) x := h; rw [rp_int] at h; subst h; rfl
  case str s =>
    have h : Rp K H A (.str _) x := h; rw [rp_str] at h; subst h
    split at e
    · rename_i hl; cases e; exact ⟨hl, rfl⟩
    · cases e
  case tup vs =>
    cases e; have h : Rp K H A (.tup _) x := h; rw [rp_tup] at h
    obtain ⟨a, xs, rfl, _, ha, l, z⟩ := h
    exact .inr (.inl ⟨xs, SqT.of ha, by rw [isEmpty_len l.length]⟩)
  case lst vs =>
    cases e
    obtain ⟨a, xs, rfl, ha, l, z⟩ := h
    exact .inl ⟨xs, SqL.of ha, by rw [isEmpty_len l.length]⟩
section
variable {X : Cx} {G : Cfg} {a b c : Expr} {da db dc : ED} {ta tb : TD} {pos : Pos} {rest : List Expr}
theorem Post.bindT {α : Type} {M : AP} {H : Hp} {σ : L2.St} {env : EnvD} {ok : α → AP → Hp → Prop} {f : Bool × EnvD → Res α} {d : TD} {B : Bool → Hp → Prop} (R : RelEnv G.K H G.P M σ env) (h : Post G M H ok (d env >>= f))
    (k : ∀ b env' M' H', Ext M H M' H' → RelEnv G.K H' G.P M' σ env' → Post G M' H' ok (f (b, env')) → B b H') : tT G d σ H B := by
  refine ⟨M, env, R, ?_⟩
  cases q : d env with
  | ok a =>
    obtain ⟨b, env'⟩ := a
    rw [q] at h
    exact fun M' H' e R' => k b env' M' H' e R' (Post.mono (r := f (b, env')) h e)
  | exc c p => rw [q] at h; exact h
  | bad => rw [q] at h; exact h
theorem Post.endT {M : AP} {H : Hp} {σ : L2.St} {b : Bool} {env : EnvD} {Q : Bool → Hp → Prop} (R : RelEnv G.K H G.P M σ env) (p : Post G M H (okT G σ Q) (.ok (b, env))) : Q b H := p M H .refl R
theorem st_B {t : TE} (h : PT X a (tTest t)) (w : ∀ σ H Q, tE G da σ H Q → t σ H Q) : PT X a (tT G (dTB da)) := h.pv fun σ H Q hq => by
  refine w σ H _ ?_
  obtain ⟨M, env, R, p⟩ := hq
  refine Post.bindF R p fun v o e1 x M1 H1 x1 R1 r1 p1 => ?_
  cases v <;> try exact p1.elim
  rw [rp_bl] at r1; subst r1
  exact ⟨_, rfl, p1.endT R1⟩
theorem st_truth (ha : PE X a (tE G da)) (hK : X.K = G.K) (he : ∀ whole, isTrue a X.env whole = (do let v ← whole; standAt a.pos; holding [v] (truthy v))) : PT X a (tT G (dTru da)) := (pt_truth ha he).pv fun σ H Q hq => by
  obtain ⟨M, env, R, p⟩ := hq
  refine Post.bindF R p fun v o e1 x M1 H1 x1 R1 r1 p1 => ?_
  simp only at p1
  cases e : truV v with
  | none => rw [e] at p1; exact p1.elim
  | some b => rw [e] at p1; exact ⟨b, by rw [hK]; exact tru_of r1.rdr e, p1.endT R1⟩
theorem st_truthS {i : Nat} (ha : PE X a (tVar i)) (hK : X.K = G.K) (he : ∀ whole, isTrue a X.env whole = (do let v ← whole; standAt a.pos; holding [v] (truthy v))) : PT X a (tT G (dTruS i)) := (pt_truth ha he).pv fun σ H Q hq => by
  obtain ⟨M, env, R, p⟩ := hq
  have fin : ∀ v, (env[i]? = some (.frz v) ∨ env[i]? = some (.own v)) → Post G M H (okT G σ Q) (match truV v with | some b => .ok (b, env) | none => .bad) → tVar i σ H (fun x H' => ∃ k, TruV X.K x H' k ∧ Q k H') := fun v hv p => by
    obtain ⟨x, e, r⟩ := R.rdr hv
    cases e' : truV v with
    | none => rw [e'] at p; exact p.elim
    | some b => rw [e'] at p; exact ⟨x, e, b, by rw [hK]; exact tru_of r e', p.endT R⟩
  unfold dTruS at p
  split at p
  · rename_i v h; exact fin v (.inl h) p
  · rename_i v h; exact fin v (.inr h) p
  · exact p.elim
theorem sw_and (ha : PT X a (tT G ta)) (hb : PW X (.BoolOp .And (b :: rest) pos) (tT G tb)) : PW X (.BoolOp .And (a :: b :: rest) pos) (tT G (dAndT ta tb)) := (pw_and ha hb).pv fun σ H Q hq => by
  obtain ⟨M, env, R, p⟩ := hq
  refine Post.bindT R p fun c e1 M1 H1 x1 R1 p1 => ?_
  cases c with
  | true => exact ⟨M1, e1, R1, p1⟩
  | false => exact p1.endT R1
theorem sw_or (ha : PT X a (tT G ta)) (hb : PW X (.BoolOp .Or (b :: rest) pos) (tT G tb)) : PW X (.BoolOp .Or (a :: b :: rest) pos) (tT G (dOrT ta tb)) := (pw_or ha hb).pv fun σ H Q hq => by
  obtain ⟨M, env, R, p⟩ := hq
  refine Post.bindT R p fun c e1 M1 H1 x1 R1 p1 => ?_
  cases c with
  | true => exact p1.endT R1
  | false => exact ⟨M1, e1, R1, p1⟩
theorem st_not (ha : PT X a (tT G ta)) : PT X (.UnaryOp .Not a pos) (tT G (dNotT ta)) := (pt_not ha).pv fun σ H Q hq => by
  obtain ⟨M, env, R, p⟩ := hq
  exact Post.bindT R p fun c e1 M1 H1 x1 R1 p1 => p1.endT R1
theorem se_if (hc : PT X c (tT G ta)) (ha : PE X a (tE G da)) (hb : PE X b (tE G db)) : PE X (.IfExp c a b pos) (tE G (dIf ta da db)) := (pe_ifExp hc ha hb).pv fun σ H Q hq => by
  obtain ⟨M, env, R, p⟩ := hq
  refine Post.bindT R p fun c e1 M1 H1 x1 R1 p1 => ?_
  cases c with
  | true => exact ⟨M1, e1, R1, p1⟩
  | false => exact ⟨M1, e1, R1, p1⟩
theorem Post.endE {M : AP} {H : Hp} {σ : L2.St} {v : Val} {env : EnvD} {Q : VK} {x : V} (R : RelEnv G.K H G.P M σ env) (p : Post G M H (okE G σ Q) (.ok (v, false, env))) (r : Rp G.K H (or' G.P M) v x) : Q x H := p M H .refl R x r
theorem se_and (ha : PE X a (tE G da)) (hb : PE X (.BoolOp .And (b :: rest) pos) (tE G db)) : PE X (.BoolOp .And (a :: b :: rest) pos) (tE G (dAndV da db)) := (pe_and ha hb).pv fun σ H Q hq => by
  obtain ⟨M, env, R, p⟩ := hq
  refine Post.bindF R p fun v o e1 x M1 H1 x1 R1 r1 p1 => ?_
  cases v <;> try exact p1.elim
  rename_i c
  rw [rp_bl] at r1; subst r1
  refine ⟨c, rfl, ?_⟩
  cases c with
  | true => exact ⟨M1, e1, R1, p1⟩
  | false => exact p1.endE R1 (rp_bl.mpr rfl)
theorem se_or (ha : PE X a (tE G da)) (hb : PE X (.BoolOp .Or (b :: rest) pos) (tE G db)) : PE X (.BoolOp .Or (a :: b :: rest) pos) (tE G (dOrV da db)) := (pe_or ha hb).pv fun σ H Q hq => by
  obtain ⟨M, env, R, p⟩ := hq
  refine Post.bindF R p fun v o e1 x M1 H1 x1 R1 r1 p1 => ?_
  cases v <;> try exact p1.elim
  rename_i c
  rw [rp_bl] at r1; subst r1
  refine ⟨c, rfl, ?_⟩
  cases c with
  | true => exact p1.endE R1 (rp_bl.mpr rfl)
  | false => exact ⟨M1, e1, R1, p1⟩
theorem se_not (ha : PE X a (tE G da)) : PE X (.UnaryOp .Not a pos) (tE G (dUn oNot da)) := (pe_not ha).pv fun σ H Q hq => by
  obtain ⟨M, env, R, p⟩ := hq
  refine Post.bindF R p fun v o e1 x M1 H1 x1 R1 r1 p1 => ?_
  cases v <;> try exact p1.elim
  rename_i c
  rw [rp_bl] at r1; subst r1
  exact ⟨c, rfl, p1.endE R1 (rp_bl.mpr rfl)⟩
/-- a op b op' c -/
def dChain (f f' : Val → Val → Res (Val × Bool)) (da db dc : ED) : ED := fun env => da env >>= fun a => db a.2.2 >>= fun b => f a.1 b.1 >>= fun z => match z.1 with
  | .bl true => dc b.2.2 >>= fun c => f' b.1 c.1 >>= fun z => .ok (z.1, z.2, c.2.2)
  | .bl false => .ok (.bl false, false, b.2.2)
  | _ => .bad
theorem tE_chain {r r' : R2} {f f' : Val → Val → Res (Val × Bool)} (hs : OpS G.K r f) (hs' : OpS G.K r' f') {σ : L2.St} {H : Hp} {Q : VK} (h : tE G (dChain f f' da db dc) σ H Q) : tChain r r' (tE G da) (tE G db) (tE G dc) σ H Q := by
  obtain ⟨M, env, R, p⟩ := h
  refine Post.bindF R p fun v o e1 x M1 H1 x1 R1 r1 p1 => ?_
  refine Post.bindF R1 p1 fun w o2 e2 y M2 H2 x2 R2 r2 p2 => ?_
  have r1' := Rp.stay (x2.stay R1.pal) _ _ r1
  have a := hs H2 _ v w x y R2.al r1' r2
  revert a p2
  simp only
  cases f v w with
  | bad => intro p2; exact p2.elim
  | exc c q => intro p2 a; exact a.elim
  | ok z =>
    obtain ⟨u, o⟩ := z
    intro p2 a
    refine a _ fun z H' s n => ?_
    cases u <;> try exact p2.elim
    rename_i k
    cases o with
    | true => obtain ⟨p, _, _, z⟩ := n; exact z.elim
    | false =>
      have n : Rp G.K H' (or' G.P M2) (.bl k) z := n
      rw [rp_bl] at n; subst n
      have ee : Ext M2 H2 M2 H' := Ext.same s fun _ m => .inl m
      have R3 := R2.same s (fun _ m => m) ee fun a m => ee.live a (R2.mal a m)
      refine ⟨k, rfl, ?_⟩
      cases k with
      | false => exact Post.endE R3 (p2.mono ee) (rp_bl.mpr rfl)
      | true =>
        refine Post.bindF R3 (p2.mono ee) fun u o3 e3 t M4 H4 x4 R4 r4 p4 => ?_
        have r2' := Rp.stay ((ee.trans x4).stay R2.pal) _ _ r2
        exact fin_ans R4 (hs' H4 _ w u y t R4.al r2' r4) p4
theorem se_chain {op op' : CmpOp} {r r' : R2} {f f' : Val → Val → Res (Val × Bool)} (ho : OpR X (compareOp op) r) (ho' : OpR X (compareOp op') r') (hs : OpS G.K r f) (hs' : OpS G.K r' f') (ha : PE X a (tE G da)) (hb : PE X b (tE G db)) (hc : PE X c (tE G dc))
    (hm : lastMarks [op, op'] [b, c] = false) : PE X (.Compare a [op, op'] [b, c] pos) (tE G (dChain f f' da db dc)) := (pe_chain ho ho' ha hb hc hm).pv fun σ H Q h => tE_chain hs hs' h
theorem st_chain {op op' : CmpOp} {r r' : R2} {f f' : Val → Val → Res (Val × Bool)} (ho : OpR X (compareOp op) r) (ho' : OpR X (compareOp op') r') (hs : OpS G.K r f) (hs' : OpS G.K r' f') (ha : PE X a (tE G da)) (hb : PE X b (tE G db)) (hc : PE X c (tE G dc))
    (hm : lastMarks [op, op'] [b, c] = false) : PT X (.Compare a [op, op'] [b, c] pos) (tT G (dTB (dChain f f' da db dc))) := st_B (pt_chain ho ho' ha hb hc hm) fun σ H Q h => tE_chain hs hs' h
theorem st_cmp {op : CmpOp} {r : R2} {f : Val → Val → Res (Val × Bool)} (ho : OpR X (compareOp op) r) (hs : OpS G.K r f) (ha : PE X a (tE G da)) (hb : PE X b (tE G db)) (hm : behindInMarks op b = false) : PT X (.Compare a [op] [b] pos) (tT G (dTB (dBin f da db))) :=
  st_B (pt_cmpR ho ha hb hm) fun σ H Q h => tE_bin hs h
theorem st_cmpS {op : CmpOp} {r : R2} {f : Val → Val → Res (Val × Bool)} {i : Nat} (ho : OpR X (compareOp op) r) (hs : OpSR2 G.K r f) (ha : PE X a (tE G da)) (hb : PE X b (tVar i)) (hm : behindInMarks op b = false) : PT X (.Compare a [op] [b] pos) (tT G (dTB (dRS f da i))) :=
  st_B (pt_cmpR ho ha hb hm) fun σ H Q h => tE_RS hs h
end

/-! ### argument lists, displays -/
def dList : List ED → EnvD → Res (List Val × EnvD)
  | [], env => .ok ([], env)
  | d :: ds, env => d env >>= fun a => dList ds a.2.2 >>= fun r => .ok (a.1 :: r.1, r.2)
theorem dList_len : ∀ {ds : List ED} {env : EnvD} {r : List Val × EnvD}, dList ds env = .ok r → r.1.length = ds.length
  | [], env, r, h => by cases h; rfl
  | d :: ds, env, r, h => by
    unfold dList at h
    cases e : d env with
    | ok a =>
      rw [e] at h
      simp only [res_ok_bind] at h
      cases e2 : dList ds a.2.2 with
      | ok q => rw [e2] at h; cases h; simp [dList_len e2]
      | exc _ _ => rw [e2] at h; cases h
      | bad => rw [e2] at h; cases h
    | exc _ _ => rw [e] at h; cases h
    | bad => rw [e] at h; cases h
def okL (G : Cfg) (σ : L2.St) (Q : List V → Hp → Prop) : List Val × EnvD → AP → Hp → Prop := fun r M H => RelEnv G.K H G.P M σ r.2 → ∀ xs, RpL G.K H (or' G.P M) r.1 xs → Q xs H
def tL (G : Cfg) (ds : List ED) : TA := fun σ H Q => ∃ M env, RelEnv G.K H G.P M σ env ∧ Post G M H (okL G σ Q) (dList ds env)
section
variable {X : Cx} {G : Cfg} {e : Expr} {es : List Expr} {d : ED} {ds : List ED} {pos : Pos}
theorem Post.bindL {α : Type} {M : AP} {H : Hp} {σ : L2.St} {env : EnvD} {ok : α → AP → Hp → Prop} {f : List Val × EnvD → Res α} {B : List V → Hp → Prop} (R : RelEnv G.K H G.P M σ env) (h : Post G M H ok (dList ds env >>= f))
    (k : ∀ vs env' xs M' H', dList ds env = .ok (vs, env') → Ext M H M' H' → RelEnv G.K H' G.P M' σ env' → RpL G.K H' (or' G.P M') vs xs → Post G M' H' ok (f (vs, env')) → B xs H') : tL G ds σ H B := by
  refine ⟨M, env, R, ?_⟩
  cases q : dList ds env with
  | ok a =>
    obtain ⟨b, env'⟩ := a
    rw [q] at h
    exact fun M' H' e R' xs r => k b env' xs M' H' q e R' r (Post.mono (r := f (b, env')) h e)
  | exc c p => rw [q] at h; exact h
  | bad => rw [q] at h; exact h
theorem sa_nil : PA X [] (tL G []) := pa_nil.pv fun σ H Q ⟨M, env, R, p⟩ => p M H .refl R [] RpL.nil
theorem sa_cons (hd : PE X e (tE G d)) (hr : PA X es (tL G ds)) (hs : starEach (e :: es) X.env = (false, eval e X.env) :: starEach es X.env) : PA X (e :: es) (tL G (d :: ds)) := (pa_cons hd hr hs).pv fun σ H Q ⟨M, env, R, p⟩ => by
  refine Post.bindF R p fun v o e1 x M1 H1 x1 R1 r1 p1 => ?_
  refine Post.bindL R1 p1 fun vs e2 xs M2 H2 _ x2 R2 r2 p2 => ?_
  exact p2 M2 H2 .refl R2 (x :: xs) (rpl_cc.mpr ⟨Rp.stay (x2.stay R1.pal) _ _ r1, r2⟩)
def dTup (ds : List ED) : ED := fun env => dList ds env >>= fun r => .ok (.tup r.1, false, r.2)
def dLst (ds : List ED) : ED := fun env => dList ds env >>= fun r => .ok (.lst r.1, true, r.2)
theorem se_tup {x1} (h : PA X es (tL G ds)) (hl : ds.length ≤ 1000) : PE X (.Tuple es x1 pos) (tE G (dTup ds)) := (pe_tup h).pv fun σ H Q ⟨M, env, R, p⟩ => by
  refine Post.bindL R p fun vs e2 xs M2 H2 q x2 R2 r2 p2 => ⟨?_, fun a ha => ?_⟩
  · have := r2.length; have := dList_len q; rw [sizeLine_eq]; simp only at *; omega
  · exact fin_new R2 p2 (same_upd ha) (new_tup R2.al ha r2 (by have := dList_len q; rw [sizeLine_eq]; simp only at *; omega))
theorem se_lst (h : PA X es (tL G ds)) (hl : ds.length ≤ 1000) : PE X (.List es pos) (tE G (dLst ds)) := (pe_lst h).pv fun σ H Q ⟨M, env, R, p⟩ => by
  refine Post.bindL R p fun vs e2 xs M2 H2 q x2 R2 r2 p2 => ⟨?_, fun a ha => ?_⟩
  · have := r2.length; have := dList_len q; rw [sizeLine_eq]; simp only at *; omega
  · exact fin_new R2 p2 (same_upd ha) (new_lst ha r2 (by have := dList_len q; rw [sizeLine_eq]; simp only at *; omega))
/-- a builtin's call -/
def dCB (f : List Val → Res (Val × Bool)) (ds : List ED) : ED := fun env => dList ds env >>= fun r => f r.1 >>= fun z => .ok (z.1, z.2, r.2)
theorem tE_CB {r : List V → Hp → VK → Prop} {f : List Val → Res (Val × Bool)} (hs : OpSL G.K r f) {σ : L2.St} {H : Hp} {Q : VK} (h : tE G (dCB f ds) σ H Q) : tCB r (tL G ds) σ H Q := by
  obtain ⟨M, env, R, p⟩ := h
  refine Post.bindL R p fun vs e2 xs M2 H2 q x2 R2 r2 p2 => ?_
  exact fin_ans R2 (hs H2 _ vs xs R2.al r2) p2
end
end PV

namespace PV
open PySem PySem.Spec PyProof.Rows L2
open PySem.W (dataLt alike alikeAll lt_data gt_data le_data ge_data AlikeAll minD maxD)

/-! ### defs -/
abbrev Fn := List Val → Res (Val × Bool)
/-- what a def of plain arguments promises -/
def spP (K : PySem.W.Frag) (mg : Str → Option Value) (n : Nat) (F : Fn) : Sp := fun vs H Q E => vs.length = n ∧ ∃ (P : AP) (ws : List Val), (∀ a, P a → H a ≠ none) ∧ RpL K H P ws vs ∧ match F ws with
  | .ok (u, o) => ∀ z H', (∀ a t, H a = some t → H' a = some t) → NewR K H H' P u o z → Q z H'
  | .exc c p => ∀ cls dd H', (∀ a t, H a = some t → H' a = some t) → XOk K mg H' P c p cls dd → E cls dd H'
  | .bad => False
/-- a def whose first argument is a list of the caller's own that it may change -/
abbrev FnH := Val → List Val → Res (Val × Val)
def spH (K : PySem.W.Frag) (n : Nat) (F : FnH) : Sp := fun vs H Q E => vs.length = n ∧ ∃ (P : AP) (a : Addr) (h : Val) (ws : List Val) (xs : List V), vs = .ref a :: xs ∧ (∀ b, P b → H b ≠ none) ∧ ¬ P a ∧ OwnAt K H (or' P (· = a)) a h ∧ RpL K H (or' P (· = a)) ws xs ∧ match F h ws with
  | .ok (u, h') => ∀ z H', (∀ b t, b ≠ a → H b = some t → H' b = some t) → OwnAt K H' (or' P (· = a)) a h' → Rp K H' (or' P (· = a)) u z → Q z H'
  | _ => False

section
variable {X : Cx} {G : Cfg} {ds : List ED} {x : Str} {p pos : Pos} {e : Expr} {es : List Expr} {k n : Nat} {f : Addr} {fd : FuncData} {ps : List Str} {CX : CXT}
theorem tE_call {F : Fn} {σ : L2.St} {H : Hp} {Q : VK} (h : tE G (dCB F ds) σ H Q) (hn : ds.length = n) : tCall (spP G.K G.mg n F) [] G.E (tL G ds) σ H Q := by
  obtain ⟨M, env, R, p⟩ := h
  refine Post.bindL R p fun vs e2 xs M2 H2 q x2 R2 r2 p2 => ?_
  rw [List.append_nil]
  refine ⟨by rw [r2.length, dList_len q]; exact hn, or' G.P M2, vs, R2.al, r2, ?_⟩
  simp only at p2
  cases e : F vs with
  | ok z =>
    obtain ⟨u, o⟩ := z
    rw [e] at p2
    exact fun z H' s nn => fin_new R2 p2 s nn
  | exc c pp =>
    rw [e] at p2
    exact fun cls dd H' s xo => p2 cls dd M2 H' (Ext.same s fun _ m => .inl m) xo
  | bad => rw [e] at p2; exact p2
theorem se_call {F : Fn} (hf : FnOk X.prog X.w X.K X.mg X.base CX k f fd ps (spP G.K G.mg n F)) (hr : Room k X.A) (hg : Gl X x) (hm : X.mg x = some (.ref f)) (hk : PySem.W.keepIn X.K (.ref f) = true) (hb : Binds X.K fd ps []) (hx : Passes CX X G.E)
    (ha : PA X (e :: es) (tL G ds)) (hn : ds.length = n) (hdb : (x == ("__debug__" : Str)) = false) (he : starEach (e :: es) X.env = (false, eval e X.env) :: starEach es X.env) (hpl : (backTo pos (starEach es X.env)).any (·.1) = false) :
    PE X (.Call (.Name x p) (e :: es) [] pos) (tE G (dCB F ds)) := (pe_call hf hr hg hm hk hb .nil hx ha hdb he hpl).pv fun σ H Q h => tE_call h hn
theorem se_call0 {F : Fn} (hf : FnOk X.prog X.w X.K X.mg X.base CX k f fd ps (spP G.K G.mg 0 F)) (hr : Room k X.A) (hg : Gl X x) (hm : X.mg x = some (.ref f)) (hk : PySem.W.keepIn X.K (.ref f) = true) (hb : Binds X.K fd ps []) (hx : Passes CX X G.E)
    (hdb : (x == ("__debug__" : Str)) = false) : PE X (.Call (.Name x p) [] [] pos) (tE G (dCB F [])) := (pe_call0 hf hr hg hm hk hb .nil hx hdb).pv fun σ H Q h => by
  have := tE_call (ds := []) h rfl
  obtain ⟨M, env, R, q⟩ := this
  exact q M H .refl R [] RpL.nil
/-- f(name, ..): the name's list is lent to f -/
def dCallH (F : FnH) (i : Nat) (ds : List ED) : ED := fun env => match env[i]? with
  | some (.own _) => dList ds env >>= fun r => (match r.2[i]? with
    | some (.own h) => (match F h r.1 with
      | .ok z => .ok (z.1, false, r.2.set i (.own z.2))
      | _ => .bad)
    | _ => .bad)
  | _ => .bad
/-- a container of ours is written -/
theorem RelEnv.write {K : PySem.W.Frag} {H H' : Hp} {P M : AP} {σ : L2.St} {env : EnvD} {i : Nat} {v v' : Val} {a : Addr} (R : RelEnv K H P M σ env) (h : env[i]? = some (.own v)) (ea : σ[i]? = some (some (.ref a)))
    (s : ∀ b t, b ≠ a → H b = some t → H' b = some t) (ow : OwnAt K H' (or' P M) a v') : RelEnv K H' P M σ (env.set i (.own v')) ∧ Ext M H M H' := by
  obtain ⟨a', ea', ma, _⟩ := R.slot i _ h
  have : a' = a := by rw [ea] at ea'; cases ea'; rfl
  subst this
  have il : i < env.length := (List.getElem?_eq_some_iff.mp h).1
  have x : Ext M H M H' := ⟨fun b o e n => s b o (fun z => n (by rw [z]; exact ma)) e, fun _ m => .inl m, fun b hb => by
    by_cases z : b = a'
    · subst z; exact ow.ne
    · cases q : H b with
      | none => exact absurd q hb
      | some t => rw [s b t z q]; simp⟩
  refine ⟨⟨by rw [List.length_set]; exact R.len, fun j u e => ?_, fun j k b w w' e1 e2 e3 e4 => ?_, fun b m => x.live b (R.mal b m), fun b m => x.live b (R.pal b m), R.pm⟩, x⟩
  · by_cases hj : i = j
    · subst hj
      rw [List.getElem?_set_self il] at e; cases e
      exact ⟨a', ea, ma, ow⟩
    · rw [List.getElem?_set_ne hj] at e
      have q := R.slot j u e
      cases u with
      | emp => trivial
      | frz w => obtain ⟨y, e', r⟩ := q; exact ⟨y, e', Rp.stay (x.stay R.pal) _ _ r⟩
      | own w =>
        obtain ⟨b, e', mb, r⟩ := q
        have nb : b ≠ a' := fun z => by subst z; exact hj (R.one i j b v w h e ea e')
        have hn := r.ne
        cases hb : H b with
        | none => exact absurd hb hn
        | some t => exact ⟨b, e', mb, r.stay (x.stay R.pal) (by rw [s b t nb hb, hb])⟩
  · have go : ∀ (j : Nat) (w : Val), (env.set i (Slot.own v'))[j]? = some (.own w) → ∃ w', env[j]? = some (.own w') := fun j w e => by
      by_cases hj : i = j
      · subst hj; exact ⟨v, h⟩
      · rw [List.getElem?_set_ne hj] at e; exact ⟨w, e⟩
    obtain ⟨_, g1⟩ := go j w e1
    obtain ⟨_, g2⟩ := go k w' e2
    exact R.one j k b _ _ g1 g2 e3 e4
theorem se_callH {F : FnH} {e0 : Expr} {i : Nat} (hf : FnOk X.prog X.w X.K X.mg X.base CX k f fd ps (spH G.K n F)) (hr : Room k X.A) (hg : Gl X x) (hm : X.mg x = some (.ref f)) (hk : PySem.W.keepIn X.K (.ref f) = true) (hb : Binds X.K fd ps []) (hx : Passes CX X G.E)
    (h0 : PE X e0 (tVar i)) (ha : PA X es (tL G ds)) (hn : ds.length + 1 = n) (hdb : (x == ("__debug__" : Str)) = false) (he : starEach (e0 :: es) X.env = (false, eval e0 X.env) :: starEach es X.env) (hpl : (backTo pos (starEach es X.env)).any (·.1) = false) :
    PE X (.Call (.Name x p) (e0 :: es) [] pos) (tE G (dCallH F i ds)) := (pe_call hf hr hg hm hk hb .nil hx (pa_cons h0 ha he) hdb he hpl).pv fun σ H Q h => by
  obtain ⟨M, env, R, p⟩ := h
  unfold dCallH at p
  split at p
  · rename_i h00 hh0
    obtain ⟨a, ea, _, _⟩ := R.slot i _ hh0
    refine ⟨.ref a, ea, ?_⟩
    refine Post.bindL R p fun vs e2 xs M2 H2 q x2 R2 r2 p2 => ?_
    show spH G.K n F ((V.ref a :: xs) ++ []) H2 Q G.E
    rw [List.append_nil]
    simp only at p2
    split at p2
    · rename_i h hh
      obtain ⟨a', ea', ma, ow⟩ := R2.slot i _ hh
      rw [ea] at ea'
      cases ea'
      have eqA : or' (fun b => or' G.P M2 b ∧ b ≠ a) (· = a) = or' G.P M2 := by
        funext b; simp only [or', eq_iff_iff]
        constructor
        · rintro (⟨h, _⟩ | rfl)
          · exact h
          · exact .inr ma
        · intro h
          by_cases z : b = a
          · exact .inr z
          · exact .inl ⟨h, z⟩
      refine ⟨by rw [List.length_cons, r2.length, dList_len q]; exact hn, fun b => or' G.P M2 b ∧ b ≠ a, a, h, vs, xs, rfl, fun b hb => R2.al b hb.1, fun hb => hb.2 rfl, by rw [eqA]; exact ow, by rw [eqA]; exact r2, ?_⟩
      cases e : F h vs with
      | ok z =>
        obtain ⟨u, h'⟩ := z
        rw [e] at p2
        intro z H' s ow' ru
        rw [eqA] at ow' ru
        obtain ⟨R3, x3⟩ := R2.write hh ea s ow'
        exact p2 M2 H' x3 R3 z ru
      | exc c pp => rw [e] at p2; exact p2
      | bad => rw [e] at p2; exact p2
    · exact p2.elim
  · exact p.elim
end

/-! ### statements -/
inductive SR where
  | nx (env : EnvD) | brk (env : EnvD) | cnt (env : EnvD) | ret (v : Val) (o : Bool) (env : EnvD)
abbrev SD := EnvD → Res SR
/-- a slot that keeps its value through a def's body -/
abbrev Pin := Option (Nat × V)
def Pinned (pin : Pin) (σ : L2.St) : Prop := ∀ i x, pin = some (i, x) → σ[i]? = some (some x)
def okS (G : Cfg) (pin : Pin) (D : Ends) : SR → AP → Hp → Prop
  | .nx env, M, H => ∀ σ, RelEnv G.K H G.P M σ env → Pinned pin σ → D.nx σ H
  | .brk env, M, H => ∀ σ, RelEnv G.K H G.P M σ env → Pinned pin σ → D.bk σ H
  | .cnt env, M, H => ∀ σ, RelEnv G.K H G.P M σ env → Pinned pin σ → D.ct σ H
  | .ret v o env, M, H => ∀ σ x, RelEnv G.K H G.P M σ env → Pinned pin σ → RpR G.K H G.P M σ env v o x → D.rt x H
def tS (G : Cfg) (pin : Pin) (d : SD) : TS := fun D σ H => ∃ M env, RelEnv G.K H G.P M σ env ∧ Pinned pin σ ∧ Post G M H (okS G pin D) (d env)
def sNil : SD := fun env => .ok (.nx env)
def sSeq (d e : SD) : SD := fun env => d env >>= fun r => match r with
  | .nx env => e env
  | r => .ok r
def sExpr (d : ED) : SD := fun env => d env >>= fun a => .ok (.nx a.2.2)
def sRet (d : ED) : SD := fun env => d env >>= fun a => .ok (.ret a.1 a.2.1 a.2.2)
/-- .. given up -/
def sRetF (d : ED) : SD := fun env => d env >>= fun a => .ok (.ret a.1 false a.2.2)
def sRetN : SD := fun env => .ok (.ret .non false env)
def sIf (t : TD) (d e : SD) : SD := fun env => t env >>= fun r => if r.1 then d r.2 else e r.2
def sBrk : SD := fun env => .ok (.brk env)
def sCnt : SD := fun env => .ok (.cnt env)
section
variable {X : Cx} {G : Cfg} {pin : Pin} {st : Stmt} {rest : List Stmt} {e : Expr} {d : ED} {d1 d2 : SD} {td : TD} {pos : Pos} {D : Ends} {M : AP} {H : Hp} {σ : L2.St} {env : EnvD}
theorem Post.endN (R : RelEnv G.K H G.P M σ env) (hp : Pinned pin σ) (p : Post G M H (okS G pin D) (.ok (.nx env))) : D.nx σ H := p M H .refl σ R hp
theorem Post.ends {r : SR} (p : Post G M H (okS G pin D) (.ok r)) {M' : AP} {H' : Hp} (e : Ext M H M' H') : okS G pin D r M' H' := p M' H' e
theorem ss_nil : PSs X [] (tS G pin sNil) := pss_nil.pv fun D σ H ⟨M, env, R, hp, p⟩ => p.endN R hp
theorem tS_seq {t u : TS} (h1 : ∀ D σ H, tS G pin d1 D σ H → t D σ H) (h2 : ∀ D σ H, tS G pin d2 D σ H → u D σ H) : ∀ D σ H, tS G pin (sSeq d1 d2) D σ H → tSeq t u D σ H := fun D σ H ⟨M, env, R, hp, p⟩ => by
  refine h1 _ σ H ⟨M, env, R, hp, ?_⟩
  unfold sSeq at p
  cases q : d1 env with
  | ok r =>
    rw [q] at p
    intro M' H' x
    have p' := Post.mono p x
    cases r with
    | nx e1 => exact fun σ1 R1 hp1 => h2 D σ1 H' ⟨M', e1, R1, hp1, p'⟩
    | brk e1 => exact p'.ends .refl
    | cnt e1 => exact p'.ends .refl
    | ret v o e1 => exact p'.ends .refl
  | exc c pp => rw [q] at p; exact p
  | bad => rw [q] at p; exact p
theorem ss_cons (h1 : PS X st (tS G pin d1)) (h2 : PSs X rest (tS G pin d2)) : PSs X (st :: rest) (tS G pin (sSeq d1 d2)) := (pss_cons h1 h2).pv (tS_seq (fun _ _ _ h => h) fun _ _ _ h => h)
theorem ss_one (h1 : PS X st (tS G pin d1)) : PSs X [st] (tS G pin d1) := pss_one h1
theorem ss_pass : PS X (.Pass pos) (tS G pin sNil) := ps_pass.pv fun D σ H ⟨M, env, R, hp, p⟩ => p.endN R hp
theorem ss_brk : PS X (.Break pos) (tS G pin sBrk) := ps_break.pv fun D σ H ⟨M, env, R, hp, p⟩ => p M H .refl σ R hp
theorem ss_cnt : PS X (.Continue pos) (tS G pin sCnt) := ps_continue.pv fun D σ H ⟨M, env, R, hp, p⟩ => p M H .refl σ R hp
theorem ss_expr (he : PE X e (tE G d)) (hs : swapsWith e none pos.line X.env = pure false) : PS X (.Expr e pos) (tS G pin (sExpr d)) := (ps_expr he hs).pv fun D σ H ⟨M, env, R, hp, p⟩ =>
  Post.bindE R p fun v o e1 x M1 H1 x1 R1 r1 p1 => p1.endN R1 hp
theorem ss_ret (he : PE X e (tE G d)) : PS X (.Return (some e) pos) (tS G pin (sRet d)) := (ps_ret he).pv fun D σ H ⟨M, env, R, hp, p⟩ =>
  Post.bindE R p fun v o e1 x M1 H1 x1 R1 r1 p1 => p1 M1 H1 .refl σ x R1 hp r1
theorem ss_retF (he : PE X e (tE G d)) : PS X (.Return (some e) pos) (tS G pin (sRetF d)) := (ps_ret he).pv fun D σ H ⟨M, env, R, hp, p⟩ =>
  Post.bindF R p fun v o e1 x M1 H1 x1 R1 r1 p1 => p1 M1 H1 .refl σ x R1 hp r1
theorem ss_retN : PS X (.Return none pos) (tS G pin sRetN) := ps_retN.pv fun D σ H ⟨M, env, R, hp, p⟩ => p M H .refl σ .non R hp (show Rp _ _ _ _ _ from rp_non.mpr rfl)
theorem ss_if {c : Expr} {a b : List Stmt} (hc : PT X c (tT G td)) (ha : PSs X a (tS G pin d1)) (hb : PSs X b (tS G pin d2)) : PS X (.If c a b pos) (tS G pin (sIf td d1 d2)) := (ps_if hc ha hb).pv fun D σ H ⟨M, env, R, hp, p⟩ => by
  refine Post.bindT R p fun c e1 M1 H1 x1 R1 p1 => ?_
  cases c with
  | true => exact ⟨M1, e1, R1, hp, p1⟩
  | false => exact ⟨M1, e1, R1, hp, p1⟩
end

/-! ### targets -/
/-- a target takes a shared value; it writes the slots ws -/
abbrev GD := Val → EnvD → Res EnvD
def Else (ws : List Nat) (σ σ' : L2.St) : Prop := σ'.length = σ.length ∧ ∀ j, j ∉ ws → σ'[j]? = σ[j]?
theorem Else.refl {ws : List Nat} {σ : L2.St} : Else ws σ σ := ⟨rfl, fun _ _ => rfl⟩
theorem Else.trans {ws vs : List Nat} {σ σ1 σ2 : L2.St} (a : Else ws σ σ1) (b : Else vs σ1 σ2) : Else (ws ++ vs) σ σ2 :=
  ⟨b.1.trans a.1, fun j h => (b.2 j fun z => h (List.mem_append_right _ z)).trans (a.2 j fun z => h (List.mem_append_left _ z))⟩
def okG (G : Cfg) (ws : List Nat) (σ : L2.St) (Q : L2.St → Hp → Prop) : EnvD → AP → Hp → Prop := fun env M H => ∀ σ', RelEnv G.K H G.P M σ' env → Else ws σ σ' → Q σ' H
def tG (G : Cfg) (ws : List Nat) (d : GD) : TG := fun x σ H Q => ∃ M env v, RelEnv G.K H G.P M σ env ∧ Rp G.K H (or' G.P M) v x ∧ Post G M H (okG G ws σ Q) (d v env)
abbrev GDs := List Val → EnvD → Res EnvD
def tGs (G : Cfg) (ws : List Nat) (d : GDs) : TGs := fun xs σ H Q => ∃ M env vs, RelEnv G.K H G.P M σ env ∧ RpL G.K H (or' G.P M) vs xs ∧ Post G M H (okG G ws σ Q) (d vs env)
def gN (i : Nat) : GD := fun v env => .ok (env.set i (.frz v))
def gsNil : GDs := fun vs env => match vs with
  | [] => .ok env
  | _ => .bad
def gsCons (d : GD) (ds : GDs) : GDs := fun vs env => match vs with
  | v :: vs => d v env >>= fun env => ds vs env
  | [] => .bad
def gT (n : Nat) (ds : GDs) : GD := fun v env => match v with
  | .tup vs => if vs.length = n then ds vs env else .bad
  | _ => .bad
theorem _root_.L2.PG.pv {X : Cx} {e : Expr} {t t' : TG} (h : PG X e t) (w : ∀ x σ H Q, t' x σ H Q → t x σ H Q) : PG X e t' := ⟨fun pins s σ H v u Q I r q => h.run pins s σ H v u Q I r (w v σ H Q q)⟩
theorem _root_.L2.PGs.pv {X : Cx} {e : List Expr} {t t' : TGs} (h : PGs X e t) (w : ∀ x σ H Q, t' x σ H Q → t x σ H Q) : PGs X e t' := ⟨fun pins s σ H v u Q I r q => h.run pins s σ H v u Q I r (w v σ H Q q)⟩
section
variable {X : Cx} {G : Cfg} {pin : Pin} {e : Expr} {es : List Expr} {d : GD} {ds : GDs} {pos : Pos}
theorem RelEnv.setBoth {K : PySem.W.Frag} {H : Hp} {P M : AP} {σ : L2.St} {env : EnvD} {i : Nat} {t : Slot} {y : Option V} (R : RelEnv K H P M σ env) (no : ∀ v, t ≠ .own v) (h : i < σ.length → SlotOk K H P M (σ.set i y) i t) : RelEnv K H P M (σ.set i y) (env.set i t) := by
  refine ⟨by rw [List.length_set, List.length_set]; exact R.len, fun j u e => ?_, fun j k a v w e1 e2 e3 e4 => ?_, R.mal, R.pal, R.pm⟩
  · by_cases hj : i = j
    · subst hj
      by_cases hl : i < env.length
      · rw [List.getElem?_set_self hl] at e; cases e; exact h (by rw [← R.len]; exact hl)
      · rw [List.getElem?_eq_none (by simpa using hl)] at e; cases e
    · rw [List.getElem?_set_ne hj] at e
      have q := R.slot j u e
      cases u with
      | emp => trivial
      | frz v => obtain ⟨x, e', r⟩ := q; exact ⟨x, by rw [List.getElem?_set_ne hj]; exact e', r⟩
      | own v => obtain ⟨a, e', r⟩ := q; exact ⟨a, by rw [List.getElem?_set_ne hj]; exact e', r⟩
  · have go : ∀ (j : Nat) (v : Val), (env.set i t)[j]? = some (.own v) → env[j]? = some (.own v) ∧ j ≠ i := fun j v e => by
      by_cases hj : i = j
      · subst hj
        by_cases hl : i < env.length
        · rw [List.getElem?_set_self hl] at e; exact absurd (Option.some.inj e) (no v)
        · rw [List.getElem?_eq_none (by simpa using hl)] at e; cases e
      · rw [List.getElem?_set_ne hj] at e; exact ⟨e, fun z => hj z.symm⟩
    obtain ⟨g1, n1⟩ := go j v e1
    obtain ⟨g2, n2⟩ := go k w e2
    rw [List.getElem?_set_ne (fun z => n1 z.symm)] at e3
    rw [List.getElem?_set_ne (fun z => n2 z.symm)] at e4
    exact R.one j k a v w g1 g2 e3 e4
theorem RelEnv.bindF {K : PySem.W.Frag} {H : Hp} {P M : AP} {σ : L2.St} {env : EnvD} {i : Nat} {v : Val} {x : V} (R : RelEnv K H P M σ env) (r : Rp K H (or' P M) v x) : RelEnv K H P M (σ.set i (some x)) (env.set i (.frz v)) :=
  R.setBoth (fun _ z => nomatch z) fun hi => ⟨x, List.getElem?_set_self hi, r⟩
def NoPin (pin : Pin) (i : Nat) : Prop := ∀ j x, pin = some (j, x) → j ≠ i
theorem Pinned.set {σ : L2.St} {i : Nat} {y : Option V} (h : Pinned pin σ) (n : NoPin pin i) : Pinned pin (σ.set i y) := fun j x e => by
  rw [List.getElem?_set_ne (fun z => n j x e z.symm)]; exact h j x e
/-- the pin is none of these -/
def NoPins (pin : Pin) (ws : List Nat) : Prop := ∀ j x, pin = some (j, x) → j ∉ ws
theorem Pinned.els {σ σ' : L2.St} {ws : List Nat} (h : Pinned pin σ) (n : NoPins pin ws) (e : Else ws σ σ') : Pinned pin σ' := fun j x q => by
  rw [e.2 j (n j x q)]; exact h j x q
theorem sg_name {i : Nat} {x : Str} (hN : X.N.Nodup) (hi : X.N[i]? = some x) (hx : Loc X.env.scope x) (hf : X.fn x = true ∨ X.env.scope.names.lookup x = some .local) : PG X (.Name x pos) (tG G [i] (gN i)) :=
  (pg_name hN hi hx hf).pv fun x σ H Q ⟨M, env, v, R, r, p⟩ => p M H .refl _ (R.bindF r) ⟨by rw [List.length_set], fun j h => List.getElem?_set_ne fun z => h (by simp [z])⟩
theorem sgs_nil : PGs X [] (tGs G [] gsNil) := pgs_nil.pv fun xs σ H Q ⟨M, env, vs, R, r, p⟩ => by
  cases vs with
  | nil => rw [rpl_nil] at r; exact ⟨r, p M H .refl σ R .refl⟩
  | cons v vs => exact p.elim
theorem sgs_cons {w1 w2 : List Nat} (h1 : PG X e (tG G w1 d)) (h2 : PGs X es (tGs G w2 ds)) (hs : (assignEach (e :: es) X.env).map (·.2) = assign e X.env :: (assignEach es X.env).map (·.2)) : PGs X (e :: es) (tGs G (w1 ++ w2) (gsCons d ds)) := (pgs_cons h1 h2 hs).pv fun xs σ H Q ⟨M, env, vs, R, r, p⟩ => by
  cases vs with
  | nil => exact p.elim
  | cons v vs =>
    rw [rpl_cons] at r
    obtain ⟨x, xr, rfl, r1, r2⟩ := r
    refine ⟨x, xr, rfl, M, env, v, R, r1, ?_⟩
    unfold gsCons at p
    simp only at p
    cases q : d v env with
    | ok e1 =>
      rw [q] at p
      refine fun M' H' ex σ' R' el => ⟨M', e1, vs, R', RpL.stay (ex.stay R.pal) _ _ r2, ?_⟩
      have p' := Post.mono p ex
      simp only [res_ok_bind] at p'
      revert p'
      cases ds vs e1 with
      | ok e2 => exact fun p' M2 H2 x2 σ2 R2 el2 => p' M2 H2 x2 σ2 R2 (el.trans el2)
      | exc c pp => exact fun p' => p'
      | bad => exact fun p' => p'
    | exc c pp => rw [q] at p; exact p
    | bad => rw [q] at p; exact p
theorem sg_tup {ws : List Nat} {k n : Nat} (hc : X.calm = true) (hK : X.K = G.K) (h : PGs X es (tGs G ws ds)) (hn : (assignEach es X.env).length = n) (hst : (assignEach es X.env).findIdx? (·.1) = none) : PG X (.Tuple es k pos) (tG G ws (gT n ds)) := (pg_tup hc h hn hst).pv fun x σ H Q ⟨M, env, v, R, r, p⟩ => by
  cases v <;> try exact p.elim
  rename_i vs
  rw [rp_tup] at r
  obtain ⟨a, xs, rfl, na, ha, l, z⟩ := r
  change Post G M H (okG G ws σ Q) (if vs.length = n then ds vs env else .bad) at p
  split at p
  · rename_i e
    exact ⟨a, xs, rfl, SqT.of ha, by rw [l.length]; exact e, M, env, vs, R, l, p⟩
  · exact p.elim
/-- target = e -/
def sAsg (d : ED) (g : GD) : SD := fun env => d env >>= fun a => g a.1 a.2.2 >>= fun env => .ok (.nx env)
theorem tS_asg {dd : ED} {ws : List Nat} (np : NoPins pin ws) : ∀ D σ H, tS G pin (sAsg dd d) D σ H → tAsg (tE G dd) (tG G ws d) D σ H := fun D σ H ⟨M, env, R, hp, p⟩ => by
  refine Post.bindF R p fun v o e1 x M1 H1 x1 R1 r1 p1 => ⟨M1, e1, v, R1, r1, ?_⟩
  simp only at p1
  cases q : d v e1 with
  | ok e2 => rw [q] at p1; exact fun M' H' ex σ' R' el => p1 M' H' ex σ' R' (hp.els np el)
  | exc c pp => rw [q] at p1; exact p1
  | bad => rw [q] at p1; exact p1
theorem ss_asg {tg : Expr} {dd : ED} {ws : List Nat} (np : NoPins pin ws) (he : PE X e (tE G dd)) (hg : PG X tg (tG G ws d)) (hs : swapsWithSole [tg] e pos.line X.env = pure false) (hw : swappedStores [tg] e X.env = pure none) (h1 : (assignEach [tg] X.env).map (·.2) = [assign tg X.env]) :
    PS X (.Assign [tg] e pos) (tS G pin (sAsg dd d)) := (ps_asg he hg hs hw h1).pv (tS_asg np)
/-- name = e, the name's own if it is new -/
def sOwn (d : ED) (i : Nat) : SD := fun env => d env >>= fun a => .ok (.nx (a.2.2.set i (if a.2.1 then .own a.1 else .frz a.1)))
theorem RelEnv.bindO {K : PySem.W.Frag} {H : Hp} {P M : AP} {σ : L2.St} {env : EnvD} {i : Nat} {v : Val} {a : Addr} (R : RelEnv K H P M σ env) (ma : M a) (ow : OwnAt K H (or' P M) a v)
    (no : ∀ (j : Nat) (w : Val), env[j]? = some (.own w) → σ[j]? ≠ some (some (.ref a))) : RelEnv K H P M (σ.set i (some (.ref a))) (env.set i (.own v)) := by
  have base := R.setBoth (i := i) (t := .emp) (y := some (.ref a)) (fun _ z => nomatch z) fun _ => trivial
  refine ⟨by rw [List.length_set, List.length_set]; exact R.len, fun j u e => ?_, fun j k b w w' e1 e2 e3 e4 => ?_, R.mal, R.pal, R.pm⟩
  · by_cases hj : i = j
    · subst hj
      by_cases hl : i < env.length
      · rw [List.getElem?_set_self hl] at e; cases e
        exact ⟨a, List.getElem?_set_self (by rw [← R.len]; exact hl), ma, ow⟩
      · rw [List.getElem?_eq_none (by simpa using hl)] at e; cases e
    · rw [List.getElem?_set_ne hj] at e
      exact base.slot j u (by rw [List.getElem?_set_ne hj]; exact e)
  · by_cases hj : i = j
    · by_cases hk : i = k
      · rw [← hj, hk]
      · subst hj
        rw [List.getElem?_set_ne hk] at e2 e4
        by_cases hl : i < env.length
        · rw [List.getElem?_set_self (by rw [← R.len]; exact hl)] at e3; cases e3
          exact absurd e4 (no k _ e2)
        · rw [List.getElem?_eq_none (by simpa using hl)] at e1; cases e1
    · by_cases hk : i = k
      · subst hk
        rw [List.getElem?_set_ne hj] at e1 e3
        by_cases hl : i < env.length
        · rw [List.getElem?_set_self (by rw [← R.len]; exact hl)] at e4; cases e4
          exact absurd e3 (no j _ e1)
        · rw [List.getElem?_eq_none (by simpa using hl)] at e2; cases e2
      · rw [List.getElem?_set_ne hj] at e1 e3
        rw [List.getElem?_set_ne hk] at e2 e4
        exact R.one j k b w w' e1 e2 e3 e4
theorem tS_own {dd : ED} {i : Nat} (np : NoPin pin i) : ∀ D σ H, tS G pin (sOwn dd i) D σ H → tAsg (tE G dd) (gName i) D σ H := fun D σ H ⟨M, env, R, hp, p⟩ => by
  refine Post.bindE R p fun v o e1 x M1 H1 x1 R1 r1 p1 => ?_
  show D.nx (σ.set i (some x)) H1
  cases o with
  | false => exact p1.endN (R1.bindF r1) (hp.set np)
  | true =>
    obtain ⟨a, rfl, ma, ow, no⟩ := r1
    exact p1.endN (R1.bindO ma ow no) (hp.set np)
theorem ss_own {dd : ED} {i : Nat} {x : Str} {pos' : Pos} (hN : X.N.Nodup) (hi : X.N[i]? = some x) (hx : Loc X.env.scope x) (hf : X.fn x = true ∨ X.env.scope.names.lookup x = some .local) (np : NoPin pin i) (he : PE X e (tE G dd))
    (hs : swapsWith e (some (.Name x pos')) pos.line X.env = pure false) : PS X (.Assign [.Name x pos'] e pos) (tS G pin (sOwn dd i)) := (ps_set hN hi hx he hs hf).pv (tS_own np)
end
end PV

namespace PV
open PySem PySem.Spec PyProof.Rows L2
open PySem.W (dataLt alike alikeAll lt_data gt_data le_data ge_data AlikeAll minD maxD)

/-! ### name[i] = e -/
def rSetV : TSet := fun o i v H Q => rSetL o i v H Q ∨ ∃ a H', o = .ref a ∧ DPut H a i v H' ∧ Q H'
theorem set_V {X : Cx} (hu : X.A.units + 1 < cLine) : PSet X rSetV := by
  intro pins s σ H o i v ov iv u Q I ro ri rv h
  rcases h with h | ⟨a, H', rfl, g, q⟩
  · exact set_list pins s σ H o i v ov iv u Q I ro ri rv h
  · obtain rfl : ov = Value.ref a := ro
    exact d_setItem hu I g ri rv fun s4 I4 => ⟨H', I4, q⟩
def setV : Val → Val → Val → Option Val
  | .lst vs, .int k, w => (ixN vs.length k).map fun j => .lst (vs.set j w)
  | .dK kvs, k, w => (toKey k).bind fun k => if kvs.length < sizeLine then some (.dK (putV kvs k w)) else none
  | .dT kvs, .tup ks, w => (toKeys ks).bind fun ks => if kvs.length < sizeLine then some (.dT (putV kvs ks w)) else none
  | _, _, _ => none
theorem putV_length {κ : Type} [DecidableEq κ] (kvs : List (κ × Val)) (k : κ) (v : Val) (h : kvs.length < sizeLine) : (putV kvs k v).length ≤ sizeLine := by
  unfold putV
  split
  · rw [List.length_map]; omega
  · rw [List.length_append]; simp; omega
theorem setV_ok {K : PySem.W.Frag} {H : Hp} {A : AP} {a : Addr} {c k w c' : Val} {y z : V} (ha : A a) (h : setV c k w = some c') (ow : OwnAt K H A a c) (hk : Rp K H A k y) (hw : Rp K H A w z) :
    ∃ H', (∀ Q : Hp → Prop, Q H' → rSetV (.ref a) y z H Q) ∧ (∀ b t, b ≠ a → H b = some t → H' b = some t) ∧ OwnAt K H' A a c' := by
  have st : ∀ {o : HO}, Stay H A (upd H a o) A := fun b t e n => ⟨by rw [upd_ne (fun q => n (by rw [q]; exact ha))]; exact e, n⟩
  have sm : ∀ {o : HO}, ∀ b t, b ≠ a → H b = some t → upd H a o b = some t := fun b t n e => by rw [upd_ne n]; exact e
  cases c <;> try (cases h; done)
  case lst vs =>
    cases k <;> try (cases h; done)
    rename_i k
    rw [rp_int] at hk; subst hk
    obtain ⟨xs, hx, l, zl⟩ := ow
    change (ixN vs.length k).map (fun j => Val.lst (vs.set j w)) = _ at h
    cases e : ixN vs.length k with
    | none => rw [e] at h; cases h
    | some j =>
      rw [e] at h; cases h
      exact ⟨_, fun Q q => .inl ⟨a, xs, k, j, rfl, rfl, hx, by rw [l.length]; exact e, q⟩, sm, xs.set j z, upd_same, RpL.stay st _ _ (RpL.set hw j l), by rw [List.length_set]; exact zl⟩
  case dK kvs =>
    obtain ⟨xs, hx, l, zl⟩ := ow
    change (toKey k).bind (fun k => if kvs.length < sizeLine then some (Val.dK (putV kvs k w)) else none) = _ at h
    cases e : toKey k with
    | none => rw [e] at h; cases h
    | some j =>
      rw [e] at h
      simp only [Option.bind_some] at h
      split at h
      · rename_i hl
        cases h
        exact ⟨_, fun Q q => .inr ⟨a, _, rfl, .inl ⟨xs, j, hx, toKey_rp e hk, by rw [l.length]; exact hl, rfl⟩, q⟩, sm, _, upd_same, RpK.stay st _ _ (RpK.put j hw l), putV_length _ _ _ hl⟩
      · cases h
  case dT kvs =>
    cases k <;> try (cases h; done)
    rename_i ks
    obtain ⟨xs, hx, l, zl⟩ := ow
    rw [rp_tup] at hk
    obtain ⟨b, ys, rfl, nb, hb, l2, _⟩ := hk
    change (toKeys ks).bind (fun ks => if kvs.length < sizeLine then some (Val.dT (putV kvs ks w)) else none) = _ at h
    cases e : toKeys ks with
    | none => rw [e] at h; cases h
    | some j =>
      rw [e] at h
      simp only [Option.bind_some] at h
      split at h
      · rename_i hl
        cases h
        have ey := toKeys_rp e l2
        subst ey
        exact ⟨_, fun Q q => .inr ⟨a, _, rfl, .inr ⟨xs, j, b, hx, rfl, hb, by rw [l.length]; exact hl, rfl⟩, q⟩, sm, _, upd_same, RpT.stay st _ _ (RpT.put j hw l), putV_length _ _ _ hl⟩
      · cases h
/-- name[e] = e' -/
def sSet (i : Nat) (di dv : ED) : SD := fun env => dv env >>= fun v => match v.2.2[i]? with
  | some (.own _) => di v.2.2 >>= fun k => (match k.2.2[i]? with
    | some (.own c) => (match setV c k.1 v.1 with
      | some c => .ok (.nx (k.2.2.set i (.own c)))
      | none => .bad)
    | _ => .bad)
  | _ => .bad
/-- name op= e, of ints -/
def oAug (g : Int → Int → Int) : Val → Val → Option Val
  | .int i, .int j => some (.int (g i j))
  | _, _ => none
def sAug (i : Nat) (g : Int → Int → Int) (d : ED) : SD := fun env => match env[i]? with
  | some (.frz v) => d env >>= fun w => (match oAug g v w.1 with
    | some u => .ok (.nx (w.2.2.set i (.frz u)))
    | none => .bad)
  | _ => .bad
section
variable {X : Cx} {G : Cfg} {pin : Pin} {e i : Expr} {d di dv : ED} {pos pos' : Pos}
theorem ss_set {j : Nat} {o : Expr} (hu : X.A.units + 1 < cLine) (ho : PE X o (tVar j)) (hi : PE X i (tE G di)) (hv : PE X e (tE G dv))
    (ha : ∀ v, assign (.Subscript o i pos') X.env v = (do
      let ov ← holding [v] (eval o X.env)
      let iv ← holding [v, ov] (eval i X.env)
      standAt pos'
      holding [v, ov, iv] (setItem ov iv v)
      release [v, ov, iv] []))
    (hs : swapsWithSole [.Subscript o i pos'] e pos.line X.env = pure false) (hw : swappedStores [.Subscript o i pos'] e X.env = pure none) (h1 : (assignEach [.Subscript o i pos'] X.env).map (·.2) = [assign (.Subscript o i pos') X.env]) :
    PS X (.Assign [.Subscript o i pos'] e pos) (tS G pin (sSet j di dv)) := (ps_asg hv (pg_sub ho hi (set_V hu) ha) hs hw h1).pv fun D σ H ⟨M, env, R, hp, p⟩ => by
  refine Post.bindF R p fun w ow e1 z M1 H1 x1 R1 r1 p1 => ?_
  simp only at p1
  split at p1
  · rename_i c0 h0
    obtain ⟨a, ea, _, _⟩ := R1.slot j _ h0
    refine ⟨.ref a, ea, ?_⟩
    refine Post.bindF R1 p1 fun k ok e2 y M2 H2 x2 R2 r2 p2 => ?_
    simp only at p2
    split at p2
    · rename_i c hc
      obtain ⟨a', ea', ma, oa⟩ := R2.slot j _ hc
      rw [ea] at ea'
      cases ea'
      have r1' := Rp.stay (x2.stay R1.pal) _ _ r1
      cases q : setV c k w with
      | some c' =>
        rw [q] at p2
        obtain ⟨H3, f1, f2, f3⟩ := setV_ok (.inr ma) q oa r2 r1'
        obtain ⟨R3, x3⟩ := R2.write hc ea f2 f3
        exact f1 _ (p2 M2 H3 x3 σ R3 hp)
      | none => rw [q] at p2; exact p2.elim
    · exact p2.elim
  · exact p1.elim
theorem ss_aug {op : Operator} {g : Int → Int → Int} {j : Nat} {x : Str} (hN : X.N.Nodup) (hi : X.N[j]? = some x) (hx : Loc X.env.scope x) (hf : X.fn x = true ∨ X.env.scope.names.lookup x = some .local) (np : NoPin pin j) (he : PE X e (tE G d)) (ho : PIp X op (ipI g)) :
    PS X (.AugAssign (.Name x pos') op e pos) (tS G pin (sAug j g d)) := (ps_aug hN hi hx he ho hf).pv fun D σ H ⟨M, env, R, hp, p⟩ => by
  unfold sAug at p
  split at p
  · rename_i v hv
    obtain ⟨x0, e0, r0⟩ := R.slot j _ hv
    refine ⟨x0, e0, ?_⟩
    refine Post.bindF R p fun w ow e1 z M1 H1 x1 R1 r1 p1 => ?_
    simp only at p1
    cases v <;> try exact p1.elim
    cases w <;> try exact p1.elim
    rename_i a b
    rw [rp_int] at r0 r1; subst r0 r1
    exact ⟨a, b, rfl, rfl, p1 M1 H1 .refl _ (R1.bindF (rp_int.mpr rfl)) (hp.set np)⟩
  · exact p.elim

/-! ### methods of a list of ours -/
def dApp (i : Nat) (d : ED) : ED := fun env => match env[i]? with
  | some (.own (.lst _)) => d env >>= fun a => (match a.2.2[i]? with
    | some (.own (.lst vs)) => if vs.length < sizeLine then .ok (.non, false, a.2.2.set i (.own (.lst (vs ++ [a.1])))) else .bad
    | _ => .bad)
  | _ => .bad
def dExt (i : Nat) (d : ED) : ED := fun env => match env[i]? with
  | some (.own (.lst _)) => d env >>= fun a => (match a.2.2[i]?, a.1 with
    | some (.own (.lst vs)), .lst ws => if vs.length + ws.length ≤ sizeLine then .ok (.non, false, a.2.2.set i (.own (.lst (vs ++ ws)))) else .bad
    | _, _ => .bad)
  | _ => .bad
def dPop (i : Nat) : ED := fun env => match env[i]? with
  | some (.own (.lst vs)) => (match vs.getLast? with
    | some v => .ok (v, false, env.set i (.own (.lst vs.dropLast)))
    | none => .bad)
  | _ => .bad
theorem st_own {H : Hp} {A : AP} {a : Addr} {o : HO} (ha : A a) : Stay H A (upd H a o) A := fun b t e n => ⟨by rw [upd_ne (fun q => n (by rw [q]; exact ha))]; exact e, n⟩
theorem sm_own {H : Hp} {a : Addr} {o : HO} : ∀ b t, b ≠ a → H b = some t → upd H a o b = some t := fun b t n e => by rw [upd_ne n]; exact e
theorem tyV_list {K : PySem.W.Frag} {a : Addr} {H : Hp} {xs : List V} (h : H a = some (.lst xs)) : tyV K "list" (.ref a) H := Or.inl ⟨rfl, _, SqL.of h⟩
theorem RpL.last {K : PySem.W.Frag} {H : Hp} {A : AP} {vs : List Val} {xs : List V} {v : Val} (l : RpL K H A vs xs) (e : vs.getLast? = some v) : ∃ x, xs[xs.length - 1]? = some x ∧ Rp K H A v x := by
  rw [List.getLast?_eq_getElem?] at e
  rw [l.length]
  exact l.get e
theorem RpL.dropLast {K : PySem.W.Frag} {H : Hp} {A : AP} {vs : List Val} {xs : List V} (l : RpL K H A vs xs) : RpL K H A vs.dropLast xs.dropLast := by
  rw [List.dropLast_eq_take, List.dropLast_eq_take, l.length]
  exact l.take _
theorem se_app {j : Nat} {o : Expr} {apos : Pos} (ho : PE X o (tVar j)) (he : PE X e (tE G d)) (hP : ∀ {to : TE} {t : TA}, PE X o to → PA X [e] t → PE X (.Call (.Attribute o "append" apos) [e] [] pos) (tBM X.K "list" rAppend to t))
    (hs : starEach [e] X.env = (false, eval e X.env) :: starEach [] X.env) : PE X (.Call (.Attribute o "append" apos) [e] [] pos) (tE G (dApp j d)) := (hP ho (pa_cons he pa_nil hs)).pv fun σ H Q ⟨M, env, R, p⟩ => by
  unfold dApp at p
  split at p
  · rename_i c0 h0
    obtain ⟨a, ea, ma0, xs0, hx0, _⟩ := R.slot j _ h0
    refine ⟨.ref a, ea, tyV_list hx0, ?_⟩
    refine Post.bindF R p fun v o e1 x M1 H1 x1 R1 r1 p1 => ?_
    simp only at p1
    split at p1
    · rename_i vs hc
      obtain ⟨a', ea', ma, xs, hx, l, zl⟩ := R1.slot j _ hc
      rw [ea] at ea'; cases ea'
      split at p1
      · rename_i hl
        have A1 : or' G.P M1 a := .inr ma
        obtain ⟨R3, x3⟩ := R1.write (v' := .lst (vs ++ [v])) hc ea sm_own ⟨xs ++ [x], upd_same, RpL.stay (st_own A1) _ _ (l.append (RpL.one r1)), by rw [List.length_append]; exact hl⟩
        exact ⟨a, xs, x, rfl, rfl, hx, by rw [l.length]; exact hl, p1 M1 _ x3 R3 .non (show Rp _ _ _ _ _ from rp_non.mpr rfl)⟩
      · exact p1.elim
    · exact p1.elim
  · exact p.elim
theorem se_ext {j : Nat} {o : Expr} {apos : Pos} (ho : PE X o (tVar j)) (he : PE X e (tE G d)) (hP : ∀ {to : TE} {t : TA}, PE X o to → PA X [e] t → PE X (.Call (.Attribute o "extend" apos) [e] [] pos) (tBM X.K "list" rExtend to t))
    (hs : starEach [e] X.env = (false, eval e X.env) :: starEach [] X.env) : PE X (.Call (.Attribute o "extend" apos) [e] [] pos) (tE G (dExt j d)) := (hP ho (pa_cons he pa_nil hs)).pv fun σ H Q ⟨M, env, R, p⟩ => by
  unfold dExt at p
  split at p
  · rename_i c0 h0
    obtain ⟨a, ea, ma0, xs0, hx0, _⟩ := R.slot j _ h0
    refine ⟨.ref a, ea, tyV_list hx0, ?_⟩
    refine Post.bindF R p fun v o e1 x M1 H1 x1 R1 r1 p1 => ?_
    simp only at p1
    split at p1
    · rename_i vs ws hc
      obtain ⟨a', ea', ma, xs, hx, l, zl⟩ := R1.slot j _ hc
      rw [ea] at ea'; cases ea'
      rw [rp_lst] at r1
      obtain ⟨b, ys, rfl, nb, hb, l2, z2⟩ := r1
      split at p1
      · rename_i hl
        have A1 : or' G.P M1 a := .inr ma
        obtain ⟨R3, x3⟩ := R1.write (v' := .lst (vs ++ ws)) hc ea sm_own ⟨xs ++ ys, upd_same, RpL.stay (st_own A1) _ _ (l.append l2), by rw [List.length_append]; exact hl⟩
        exact ⟨a, b, xs, ys, rfl, rfl, hx, hb, by rw [l.length, l2.length]; exact hl, p1 M1 _ x3 R3 .non (show Rp _ _ _ _ _ from rp_non.mpr rfl)⟩
      · exact p1.elim
    · exact p1.elim
  · exact p.elim
theorem se_pop {j : Nat} {o : Expr} {apos : Pos} (ho : PE X o (tVar j)) (hP : ∀ {to : TE}, PE X o to → PE X (.Call (.Attribute o "pop" apos) [] [] pos) (tBM0 X.K "list" rPop to)) : PE X (.Call (.Attribute o "pop" apos) [] [] pos) (tE G (dPop j)) := (hP ho).pv fun σ H Q ⟨M, env, R, p⟩ => by
  unfold dPop at p
  split at p
  · rename_i vs hc
    obtain ⟨a, ea, ma, xs, hx, l, zl⟩ := R.slot j _ hc
    refine ⟨.ref a, ea, tyV_list hx, ?_⟩
    cases e : vs.getLast? with
    | none => rw [e] at p; exact p.elim
    | some v =>
      rw [e] at p
      obtain ⟨x, ex, rx⟩ := l.last e
      have A1 : or' G.P M a := .inr ma
      obtain ⟨R3, x3⟩ := R.write (v' := .lst vs.dropLast) hc ea sm_own ⟨xs.dropLast, upd_same, RpL.stay (st_own A1) _ _ l.dropLast, by rw [List.length_dropLast]; omega⟩
      exact ⟨a, xs, x, rfl, rfl, hx, ex, p M _ x3 R3 x (Rp.stay (st_own A1) _ _ rx)⟩
  · exact p.elim
end

/-! ### what is walked -/
abbrev ID := EnvD → Res (List Val × EnvD)
/-- J yields the data vs, one after another, as long as what they lean on stays -/
def ItOk (K : PySem.W.Frag) (H : Hp) (A : AP) (J : It) (vs : List Val) : Prop := ∀ (i : Nat) (H1 : Hp) (A1 : AP), Stay H A H1 A1 → (∀ a, A1 a → H1 a ≠ none) →
  (vs.length = i → J.stop i H1) ∧ ∀ v, vs[i]? = some v → J.go i H1 ∧ ∀ x H2, J.yld i H1 x H2 → (∀ a t, H1 a = some t → H2 a = some t) ∧ Rp K H2 A1 v x
def okI (G : Cfg) (σ : L2.St) (R : It → Hp → Prop) : List Val × EnvD → AP → Hp → Prop := fun r M H => RelEnv G.K H G.P M σ r.2 → ∀ J, ItOk G.K H (or' G.P M) J r.1 → R J H
def tI (G : Cfg) (d : ID) : TI := fun σ H R => ∃ M env, RelEnv G.K H G.P M σ env ∧ Post G M H (okI G σ R) (d env)
theorem Stay.refl {H : Hp} {A : AP} : Stay H A H A := fun _ _ e n => ⟨e, n⟩
theorem Stay.trans {H H1 H2 : Hp} {A A1 A2 : AP} (a : Stay H A H1 A1) (b : Stay H1 A1 H2 A2) : Stay H A H2 A2 := fun c o e n => b c o (a c o e n).1 (a c o e n).2
theorem Stay.same {H H1 : Hp} {A : AP} (s : ∀ a t, H a = some t → H1 a = some t) : Stay H A H1 A := fun a o e n => ⟨s a o e, n⟩
section
variable {G : Cfg} {pin : Pin}
def forLoop (g : GD) (b : SD) : List Val → EnvD → Res SR
  | [], env => .ok (.nx env)
  | v :: vs, env => g v env >>= fun env => b env >>= fun r => match r with
    | .nx e => forLoop g b vs e
    | .cnt e => forLoop g b vs e
    | .brk e => .ok (.nx e)
    | .ret v o e => .ok (.ret v o e)
def sFor (it : ID) (g : GD) (b : SD) : SD := fun env => it env >>= fun r => forLoop g b r.1 r.2
theorem tS_for {it : ID} {g : GD} {b : SD} {ws : List Nat} (np : NoPins pin ws) : ∀ D σ H, tS G pin (sFor it g b) D σ H → tFor (tI G it) (tG G ws g) (tS G pin b) D σ H := fun D σ H ⟨M, env, R, hp, p⟩ => by
  refine ⟨M, env, R, ?_⟩
  unfold sFor at p
  cases q : it env with
  | exc c pp => rw [q] at p; exact p
  | bad => rw [q] at p; exact p
  | ok r =>
    obtain ⟨vs, env1⟩ := r
    rw [q] at p
    intro M1 H1 x1 R1 J ij
    have p1 : Post G M1 H1 (okS G pin D) (forLoop g b vs env1) := Post.mono p x1
    refine ⟨fun i m σ H => m = vs.length - i ∧ i ≤ vs.length ∧ ∃ M env, RelEnv G.K H G.P M σ env ∧ Pinned pin σ ∧ Stay H1 (or' G.P M1) H (or' G.P M) ∧ Post G M H (okS G pin D) (forLoop g b (vs.drop i) env), ⟨vs.length, by simp, Nat.zero_le _, M1, env1, R1, hp, .refl, by simpa using p1⟩, ?_⟩
    rintro i m σ2 H2 ⟨rfl, hi, M2, env2, R2, hp2, st, p2⟩
    obtain ⟨j1, j2⟩ := ij i H2 _ st R2.al
    by_cases hlt : i < vs.length
    · have ev : vs[i]? = some vs[i] := List.getElem?_eq_getElem hlt
      obtain ⟨go, j3⟩ := j2 _ ev
      refine .inr ⟨go, fun σ H => ∃ M env, RelEnv G.K H G.P M σ env ∧ Pinned pin σ ∧ Stay H1 (or' G.P M1) H (or' G.P M) ∧ Post G M H (okS G pin D) (forLoop g b (vs.drop (i + 1)) env), fun σ' H' w => ⟨vs.length - (i + 1), by omega, rfl, hlt, w⟩, fun x H3 y => ?_⟩
      obtain ⟨s3, rx⟩ := j3 x H3 y
      rw [List.drop_eq_getElem_cons hlt] at p2
      have e3 : Ext M2 H2 M2 H3 := Ext.same s3 fun _ m => .inl m
      have R3 := R2.same s3 (fun _ m => m) e3 fun a m => e3.live a (R2.mal a m)
      have p3 := Post.mono p2 e3
      unfold forLoop at p3
      refine ⟨M2, env2, vs[i], R3, rx, ?_⟩
      cases qg : g vs[i] env2 with
      | exc c pp => rw [qg] at p3; exact p3
      | bad => rw [qg] at p3; exact p3
      | ok e4 =>
        rw [qg] at p3
        intro M4 H4 x4 σ4 R4 el4
        have hp4 := hp2.els np el4
        have p4 := Post.mono p3 x4
        refine ⟨M4, e4, R4, hp4, ?_⟩
        simp only [res_ok_bind] at p4
        have st4 : Stay H1 (or' G.P M1) H4 (or' G.P M4) := st.trans ((Stay.same s3).trans (x4.stay R3.pal))
        cases qb : b e4 with
        | exc c pp => rw [qb] at p4; exact p4
        | bad => rw [qb] at p4; exact p4
        | ok r =>
          rw [qb] at p4
          intro M5 H5 x5
          have p5 := Post.mono p4 x5
          have st5 := st4.trans (x5.stay R4.pal)
          cases r with
          | nx e5 => exact fun σ5 R5 hp5 => ⟨M5, e5, R5, hp5, st5, p5⟩
          | cnt e5 => exact fun σ5 R5 hp5 => ⟨M5, e5, R5, hp5, st5, p5⟩
          | brk e5 => exact fun σ5 R5 hp5 => p5.endN R5 hp5
          | ret v o e5 => exact p5.ends .refl
    · have e : i = vs.length := by omega
      subst e
      refine .inl ⟨j1 rfl, ?_⟩
      rw [List.drop_length] at p2
      exact p2.endN R2 hp2
def whileLoop (t : TD) (b : SD) : Nat → EnvD → Res SR
  | 0, _ => .bad
  | n + 1, env => t env >>= fun r => if r.1 then (b r.2 >>= fun s => match s with
    | .nx e => whileLoop t b n e
    | .cnt e => whileLoop t b n e
    | .brk e => .ok (.nx e)
    | .ret v o e => .ok (.ret v o e)) else .ok (.nx r.2)
def sWhile (n : Nat) (t : TD) (b : SD) : SD := whileLoop t b n
theorem tS_while {n : Nat} {t : TD} {b : SD} : ∀ D σ H, tS G pin (sWhile n t b) D σ H → tWhile (tT G t) (tS G pin b) D σ H := fun D σ H ⟨M, env, R, hp, p⟩ => by
  refine ⟨fun m σ H => ∃ M env, RelEnv G.K H G.P M σ env ∧ Pinned pin σ ∧ Post G M H (okS G pin D) (whileLoop t b m env), ⟨n, M, env, R, hp, p⟩, ?_⟩
  rintro m σ1 H1 ⟨M1, env1, R1, hp1, p1⟩
  cases m with
  | zero => exact p1.elim
  | succ m =>
    unfold whileLoop at p1
    refine Post.bindT R1 p1 fun c e2 M2 H2 x2 R2 p2 => ?_
    simp only at p2
    cases c with
    | false => exact p2.endN R2 hp1
    | true =>
      refine ⟨fun σ H => ∃ M env, RelEnv G.K H G.P M σ env ∧ Pinned pin σ ∧ Post G M H (okS G pin D) (whileLoop t b m env), fun σ' H' w => ⟨m, Nat.lt_succ_self m, w⟩, M2, e2, R2, hp1, ?_⟩
      simp only [if_true] at p2
      cases qb : b e2 with
      | exc c pp => rw [qb] at p2; exact p2
      | bad => rw [qb] at p2; exact p2
      | ok r =>
        rw [qb] at p2
        intro M5 H5 x5
        have p5 := Post.mono p2 x5
        cases r with
        | nx e5 => exact fun σ5 R5 hp5 => ⟨M5, e5, R5, hp5, p5⟩
        | cnt e5 => exact fun σ5 R5 hp5 => ⟨M5, e5, R5, hp5, p5⟩
        | brk e5 => exact fun σ5 R5 hp5 => p5.endN R5 hp5
        | ret v o e5 => exact p5.ends .refl
end
end PV

namespace PV
open PySem PySem.Spec PyProof.Rows L2
open PySem.W (dataLt alike alikeAll lt_data gt_data le_data ge_data AlikeAll minD maxD)

def wipeD (env : EnvD) : List Nat → EnvD
  | [] => env
  | v :: vs => (wipeD env vs).set v .emp
def backD (e1 e2 : EnvD) : List Nat → EnvD
  | [] => e2
  | v :: vs => (backD e1 e2 vs).set v (e1[v]?.getD .emp)
def noOwn (env : EnvD) (own : List Nat) : Bool := own.all fun j => match env[j]? with
  | some (.own _) => false
  | _ => true
/-- nothing is raised -/
def noX {α : Type} : Res α → Res α
  | .ok a => .ok a
  | _ => .bad
def lcLoop (own : List Nat) (g : GD) (t : TD) (elt : ED) : List Val → EnvD → List Val → Res (List Val × EnvD)
  | [], env, acc => .ok (acc, env)
  | v :: vs, env, acc => g v env >>= fun e1 => t e1 >>= fun r => if r.1 then (elt r.2 >>= fun y => lcLoop own g t elt vs (wipeD y.2.2 own) (acc ++ [y.1])) else lcLoop own g t elt vs (wipeD r.2 own) acc
def dLc (own : List Nat) (it : ID) (g : GD) (t : TD) (elt : ED) : ED := fun env => it env >>= fun r => if noOwn r.2 own && decide (r.1.length ≤ sizeLine) then (noX (lcLoop own g t elt r.1 (wipeD r.2 own) []) >>= fun z => .ok (.lst z.1, true, backD r.2 z.2 own)) else .bad
def dYes : TD := fun env => .ok (true, env)

theorem wipe_get (σ : L2.St) (j : Nat) : ∀ vs : List Nat, (wipe σ vs)[j]? = if j ∈ vs then (if j < σ.length then some none else none) else σ[j]?
  | [] => by simp [wipe]
  | v :: vs => by
    unfold wipe
    by_cases h : v = j
    · subst h
      rw [if_pos List.mem_cons_self]
      by_cases hl : v < σ.length
      · rw [List.getElem?_set_self (by rw [wipe_length]; exact hl), if_pos hl]
      · rw [List.getElem?_eq_none (by rw [List.length_set, wipe_length]; omega), if_neg hl]
    · rw [List.getElem?_set_ne h, wipe_get σ j vs]
      have : (j ∈ v :: vs) ↔ j ∈ vs := by simp only [List.mem_cons]; exact ⟨fun z => z.elim (fun e => absurd e.symm h) id, .inr⟩
      simp only [this]
theorem wipe_else {σ σ2 : L2.St} {vs ws : List Nat} (e : Else ws (wipe σ vs) σ2) (h : ∀ j ∈ ws, j ∈ vs) : wipe σ2 vs = wipe σ vs := by
  have hl : σ2.length = σ.length := by rw [e.1, wipe_length]
  apply List.ext_getElem?
  intro j
  rw [wipe_get, wipe_get, hl]
  by_cases hj : j ∈ vs
  · rw [if_pos hj, if_pos hj]
  · rw [if_neg hj, if_neg hj, e.2 j fun z => hj (h j z), wipe_get, if_neg hj]
theorem wipeD_length (env : EnvD) : ∀ vs : List Nat, (wipeD env vs).length = env.length
  | [] => rfl
  | v :: vs => by unfold wipeD; rw [List.length_set, wipeD_length env vs]
theorem wipeD_get (env : EnvD) (j : Nat) : ∀ vs : List Nat, (wipeD env vs)[j]? = if j ∈ vs then (if j < env.length then some .emp else none) else env[j]?
  | [] => by simp [wipeD]
  | v :: vs => by
    unfold wipeD
    by_cases h : v = j
    · subst h
      rw [if_pos List.mem_cons_self]
      by_cases hl : v < env.length
      · rw [List.getElem?_set_self (by rw [wipeD_length]; exact hl), if_pos hl]
      · rw [List.getElem?_eq_none (by rw [List.length_set, wipeD_length]; omega), if_neg hl]
    · rw [List.getElem?_set_ne h, wipeD_get env j vs]
      have : (j ∈ v :: vs) ↔ j ∈ vs := by simp only [List.mem_cons]; exact ⟨fun z => z.elim (fun e => absurd e.symm h) id, .inr⟩
      simp only [this]
theorem backD_length (e1 e2 : EnvD) : ∀ vs : List Nat, (backD e1 e2 vs).length = e2.length
  | [] => rfl
  | v :: vs => by unfold backD; rw [List.length_set, backD_length e1 e2 vs]
theorem backD_get (e1 e2 : EnvD) (h : e1.length = e2.length) (j : Nat) : ∀ vs : List Nat, (backD e1 e2 vs)[j]? = if j ∈ vs then e1[j]? else e2[j]?
  | [] => by simp [backD]
  | v :: vs => by
    unfold backD
    by_cases hj : v = j
    · subst hj
      rw [if_pos List.mem_cons_self]
      by_cases hl : v < e2.length
      · rw [List.getElem?_set_self (by rw [backD_length]; exact hl), List.getElem?_eq_getElem (by omega)]
        rfl
      · rw [List.getElem?_eq_none (by rw [List.length_set, backD_length]; omega), List.getElem?_eq_none (by omega)]
    · rw [List.getElem?_set_ne hj, backD_get e1 e2 h j vs]
      have : (j ∈ v :: vs) ↔ j ∈ vs := by simp only [List.mem_cons]; exact ⟨fun z => z.elim (fun e => absurd e.symm hj) id, .inr⟩
      simp only [this]
section
variable {K : PySem.W.Frag} {H : Hp} {P M : AP} {σ : L2.St} {env e1 e2 : EnvD} {vs : List Nat}
theorem SlotOk.at {i : Nat} {t : Slot} {σ' : L2.St} (e : σ'[i]? = σ[i]?) (h : SlotOk K H P M σ i t) : SlotOk K H P M σ' i t := by
  cases t with
  | emp => trivial
  | frz v => obtain ⟨x, e', r⟩ := h; exact ⟨x, e.trans e', r⟩
  | own v => obtain ⟨x, e', r⟩ := h; exact ⟨x, e.trans e', r⟩
theorem RelEnv.wiped (R : RelEnv K H P M σ env) : RelEnv K H P M (wipe σ vs) (wipeD env vs) := by
  have key : ∀ (j : Nat) (w : Val), (wipeD env vs)[j]? = some (.own w) → env[j]? = some (.own w) ∧ (wipe σ vs)[j]? = σ[j]? := fun j w e => by
    rw [wipeD_get] at e
    by_cases hj : j ∈ vs
    · rw [if_pos hj] at e; split at e <;> cases e
    · rw [if_neg hj] at e; exact ⟨e, by rw [wipe_get, if_neg hj]⟩
  refine ⟨by rw [wipeD_length, wipe_length]; exact R.len, fun j u e => ?_, fun j k a v w q1 q2 q3 q4 => ?_, R.mal, R.pal, R.pm⟩
  · rw [wipeD_get] at e
    by_cases hj : j ∈ vs
    · rw [if_pos hj] at e
      split at e
      · cases e; trivial
      · cases e
    · rw [if_neg hj] at e
      exact (R.slot j u e).at (by rw [wipe_get, if_neg hj])
  · obtain ⟨g1, g2⟩ := key j v q1
    obtain ⟨g3, g4⟩ := key k w q2
    rw [g2] at q3
    rw [g4] at q4
    exact R.one j k a v w g1 g3 q3 q4
/-- behind the block: its own names as they were -/
theorem RelEnv.backed {H1 : Hp} {M1 : AP} (R1 : RelEnv K H1 P M1 σ e1) (no : noOwn e1 vs = true) (x : Ext M1 H1 M H) (R : RelEnv K H P M (wipe σ vs) e2) : RelEnv K H P M σ (backD e1 e2 vs) := by
  have hl : e1.length = e2.length := by rw [R1.len, R.len, wipe_length]
  have nw : ∀ j ∈ vs, ∀ w, e1[j]? ≠ some (.own w) := fun j hj w e => by
    have := List.all_eq_true.mp no j hj
    rw [e] at this; cases this
  have key : ∀ (j : Nat) (w : Val), (backD e1 e2 vs)[j]? = some (.own w) → e2[j]? = some (.own w) ∧ (wipe σ vs)[j]? = σ[j]? := fun j w e => by
    rw [backD_get e1 e2 hl] at e
    by_cases hj : j ∈ vs
    · rw [if_pos hj] at e; exact absurd e (nw j hj w)
    · rw [if_neg hj] at e; exact ⟨e, by rw [wipe_get, if_neg hj]⟩
  refine ⟨by rw [backD_length, ← hl]; exact R1.len, fun j u e => ?_, fun j k a v w q1 q2 q3 q4 => ?_, R.mal, R.pal, R.pm⟩
  · rw [backD_get e1 e2 hl] at e
    by_cases hj : j ∈ vs
    · rw [if_pos hj] at e
      have q := R1.slot j u e
      cases u with
      | emp => trivial
      | frz v => obtain ⟨y, e', r⟩ := q; exact ⟨y, e', Rp.stay (x.stay R1.pal) _ _ r⟩
      | own v => exact absurd e (nw j hj v)
    · rw [if_neg hj] at e
      exact (R.slot j u e).at (by rw [wipe_get, if_neg hj])
  · obtain ⟨g1, g2⟩ := key j v q1
    obtain ⟨g3, g4⟩ := key k w q2
    rw [← g2] at q3
    rw [← g4] at q4
    exact R.one j k a v w g1 g3 q3 q4
end
/-- the block's wish: nothing is let out; P is kept -/
def Cfg.blk (G : Cfg) (P : AP) : Cfg := { G with E := fun _ _ _ => False, P := P }
theorem RelEnv.noSlot {K : PySem.W.Frag} {H : Hp} {P M : AP} {σ : L2.St} {env : EnvD} (R : RelEnv K H P M σ env) {p : Addr} (hp : H p = none) : ∀ (i : Nat) (w : Val), env[i]? = some (.own w) → σ[i]? ≠ some (some (.ref p)) := fun i w e q => by
  obtain ⟨a, ea, ma, _⟩ := R.slot i _ e
  rw [ea] at q
  have : a = p := by simpa using q
  subst this
  exact R.mal a ma hp
/-- an address that is kept becomes ours, and back -/
theorem or_move {P M : AP} {D : Addr} : or' (or' P (· = D)) M = or' P (or' M (· = D)) := by
  funext b; simp only [or', eq_iff_iff]
  exact ⟨fun h => h.elim (fun h => h.elim .inl fun e => .inr (.inr e)) fun m => .inr (.inl m), fun h => h.elim (fun p => .inl (.inl p)) fun h => h.elim .inr fun e => .inl (.inr e)⟩
/-- a reading for every P -/
def xE (G : Cfg) (d : ED) : TE := fun σ H Q => ∃ P, tE (G.blk P) d σ H Q
def xT (G : Cfg) (d : TD) : TT := fun σ H Q => ∃ P, tT (G.blk P) d σ H Q
def xG (G : Cfg) (ws : List Nat) (d : GD) : TG := fun x σ H Q => ∃ P, tG (G.blk P) ws d x σ H Q
section
variable {G : Cfg}
theorem tE_lc {own ws : List Nat} {it : ID} {g : GD} {t : TD} {elt : ED} {tt : TT} (hw : ∀ j ∈ ws, j ∈ own) (htt : ∀ σ H Q, xT G t σ H Q → tt σ H Q) : ∀ {σ : L2.St} {H : Hp} {Q : VK}, tE G (dLc own it g t elt) σ H Q → tLc (tI G it) (xG G ws g) tt (xE G elt) own σ H Q := fun {σ H Q} ⟨M, env, R, p⟩ => by
  refine ⟨M, env, R, ?_⟩
  unfold dLc at p
  cases q : it env with
  | exc c pp => rw [q] at p; exact p
  | bad => rw [q] at p; exact p
  | ok r =>
    obtain ⟨vs, e1⟩ := r
    rw [q] at p
    intro M1 H1 x1 R1 J ij D hD
    have p1 := Post.mono p x1
    simp only [res_ok_bind] at p1
    split at p1
    · rename_i cond
      rw [Bool.and_eq_true, decide_eq_true_eq] at cond
      obtain ⟨no, hsz⟩ := cond
      cases ql : lcLoop own g t elt vs (wipeD e1 own) [] with
      | exc c pp => rw [ql] at p1; exact p1.elim
      | bad => rw [ql] at p1; exact p1.elim
      | ok z =>
        obtain ⟨acc, eN⟩ := z
        rw [ql] at p1
        simp only [noX, res_ok_bind] at p1
        have npD : ¬ G.P D := fun h => R1.pal D h hD
        have nmD : ¬ M1 D := fun h => R1.mal D h hD
        let Inv : Nat → Hp → Prop := fun i H => ∃ (M' : AP) (env' : EnvD) (ac : List Val) (xs : List V), RelEnv G.K H (or' G.P (· = D)) M' (wipe σ own) env' ∧ Ext M1 H1 (or' M' (· = D)) H ∧ Stay H1 (or' G.P M1) H (or' (or' G.P (· = D)) M') ∧ H D = some (.lst xs) ∧
          RpL G.K H (or' (or' G.P (· = D)) M') ac xs ∧ ac.length ≤ i ∧ lcLoop own g t elt (vs.drop i) env' ac = .ok (acc, eN)
        refine ⟨fun i m H => m = vs.length - i ∧ i ≤ vs.length ∧ Inv i H, ⟨vs.length, by simp, Nat.zero_le _, M1, wipeD e1 own, [], [], ?_, ?_, ?_, upd_same, RpL.nil, Nat.le_refl _, by simpa using ql⟩, ?_⟩
        · have R1' := R1.wiped (vs := own)
          have st : Stay H1 (or' G.P M1) (upd H1 D (.lst [])) (or' (or' G.P (· = D)) M1) := fun a o e n => ⟨same_upd hD a o e, fun h => h.elim (fun h => h.elim (fun p => n (.inl p)) fun z => by subst z; rw [hD] at e; cases e) fun m => n (.inr m)⟩
          refine ⟨R1'.len, fun i t e => ?_, R1'.one, fun a m => ?_, fun a m => ?_, fun a p m => p.elim (fun p => R1.pm a p m) fun e => by subst e; exact nmD m⟩
          · have q := R1'.slot i t e
            cases t with
            | emp => trivial
            | frz v => obtain ⟨x, e', r⟩ := q; exact ⟨x, e', Rp.stay st _ _ r⟩
            | own v =>
              obtain ⟨a, e', m, r⟩ := q
              have hn := r.ne
              cases ha : H1 a with
              | none => exact absurd ha hn
              | some o => exact ⟨a, e', m, r.stay st (by rw [same_upd hD a o ha, ha])⟩
          · have := R1.mal a m
            cases ha : H1 a with
            | none => exact absurd ha this
            | some o => rw [same_upd hD a o ha]; simp
          · rcases m with m | rfl
            · have := R1.pal a m
              cases ha : H1 a with
              | none => exact absurd ha this
              | some o => rw [same_upd hD a o ha]; simp
            · rw [upd_same]; simp
        · exact Ext.same (same_upd hD) fun a m => m.elim .inl fun e => .inr (e ▸ hD)
        · exact fun a o e n => ⟨same_upd hD a o e, fun h => h.elim (fun h => h.elim (fun p => n (.inl p)) fun z => by subst z; rw [hD] at e; cases e) fun m => n (.inr m)⟩
        rintro i m H2 ⟨rfl, hi, M2, env2, ac, xs, R2, x2, st, hx, l, hac, lo⟩
        obtain ⟨j1, j2⟩ := ij i H2 _ st R2.al
        by_cases hlt : i < vs.length
        · have ev : vs[i]? = some vs[i] := List.getElem?_eq_getElem hlt
          obtain ⟨go, j3⟩ := j2 _ ev
          refine .inr ⟨go, fun H => Inv (i + 1) H, fun H' w => ⟨vs.length - (i + 1), by omega, rfl, hlt, w⟩, fun x H3 y => ?_⟩
          obtain ⟨s3, rx⟩ := j3 x H3 y
          rw [List.drop_eq_getElem_cons hlt] at lo
          have e3 : Ext M2 H2 M2 H3 := Ext.same s3 fun _ m => .inl m
          have R3 := R2.same s3 (fun _ m => m) e3 fun a m => e3.live a (R2.mal a m)
          have hx3 := s3 D _ hx
          have l3 : RpL G.K H3 _ ac xs := RpL.stay (Stay.same s3) _ _ l
          have nD2 : ¬ M2 D := fun h => R2.pm D (.inr rfl) h
          -- a later state
          have later : ∀ {M' : AP} {H' : Hp}, Ext M2 H3 M' H' → Ext M1 H1 (or' M' (· = D)) H' ∧ Stay H1 (or' G.P M1) H' (or' (or' G.P (· = D)) M') ∧ H' D = some (.lst xs) ∧ RpL G.K H' (or' (or' G.P (· = D)) M') ac xs := fun {M' H'} ex => by
            have exx := ex.stay R3.pal
            refine ⟨?_, (st.trans (Stay.same s3)).trans exx, ex.keep D _ hx3 nD2, RpL.stay exx _ _ l3⟩
            have a1 : Ext M1 H1 (or' M2 (· = D)) H3 := x2.trans (Ext.same s3 fun _ m => .inl m)
            refine ⟨fun a o e n => ?_, fun a m => ?_, fun a h => ex.live a (a1.live a h)⟩
            · have e1 := a1.keep a o e n
              refine ex.keep a o e1 fun m => ?_
              rcases a1.mem a (.inl m) with z | z
              · exact n z
              · rw [z] at e; cases e
            · rcases m with m | rfl
              · rcases ex.mem a m with z | z
                · exact a1.mem a (.inl z)
                · right
                  cases q : H1 a with
                  | none => rfl
                  | some o => exact absurd z (a1.live a (by rw [q]; simp))
              · exact .inr hD
          unfold lcLoop at lo
          refine ⟨or' G.P (· = D), M2, env2, vs[i], R3, rx, ?_⟩
          cases qg : g vs[i] env2 with
          | exc c pp => rw [qg] at lo; cases lo
          | bad => rw [qg] at lo; cases lo
          | ok e4 =>
            rw [qg] at lo
            simp only [res_ok_bind] at lo
            intro M4 H4 x4 σ4 R4 el
            have hwp := wipe_else el hw
            refine ⟨hwp, htt σ4 H4 _ ⟨or' G.P (· = D), M4, e4, R4, ?_⟩⟩
            cases qt : t e4 with
            | exc c pp => rw [qt] at lo; cases lo
            | bad => rw [qt] at lo; cases lo
            | ok rt =>
              obtain ⟨b, e5⟩ := rt
              rw [qt] at lo
              simp only [res_ok_bind] at lo
              intro M5 H5 x5 R5
              have x45 := x4.trans x5
              cases b with
              | false =>
                simp only [Bool.false_eq_true, if_false] at lo ⊢
                obtain ⟨a1, a2, a3, a4⟩ := later x45
                have R6 := R5.wiped (vs := own)
                rw [hwp] at R6
                exact ⟨M5, wipeD e5 own, ac, xs, R6, a1, a2, a3, a4, Nat.le_succ_of_le hac, lo⟩
              | true =>
                simp only [if_true] at lo ⊢
                refine ⟨or' G.P (· = D), M5, e5, R5, ?_⟩
                cases qe : elt e5 with
                | exc c pp => rw [qe] at lo; cases lo
                | bad => rw [qe] at lo; cases lo
                | ok re =>
                  obtain ⟨y, o, e6⟩ := re
                  rw [qe] at lo
                  simp only [res_ok_bind] at lo
                  intro M6 H6 x6 R6 z rz
                  obtain ⟨M7, x7, R7, rz7⟩ := RpR.give (G := G.blk (or' G.P (· = D))) R6 rz
                  have x47 := (x45.trans x6).trans x7
                  obtain ⟨a1, a2, a3, a4⟩ := later x47
                  have hl4 := a4.length
                  refine ⟨xs, a3, by omega, ?_⟩
                  have AD : or' (or' G.P (· = D)) M7 D := .inl (.inr rfl)
                  have R8 := R7.wiped (vs := own)
                  rw [hwp] at R8
                  have st8 := st_own (o := .lst (xs ++ [z])) (H := H6) AD
                  have live8 : ∀ a, H6 a ≠ none → upd H6 D (.lst (xs ++ [z])) a ≠ none := fun a h => by
                    by_cases q : a = D
                    · subst q; rw [upd_same]; simp
                    · rw [upd_ne q]; exact h
                  refine ⟨M7, wipeD e6 own, ac ++ [y], xs ++ [z], ⟨R8.len, fun j u e => ?_, R8.one, fun a m => live8 a (R8.mal a m), fun a m => live8 a (R8.pal a m), R8.pm⟩, ?_, a2.trans st8, upd_same, RpL.stay st8 _ _ (a4.append (RpL.one rz7)), by rw [List.length_append]; simp; omega, lo⟩
                  · have q := R8.slot j u e
                    cases u with
                    | emp => trivial
                    | frz w => obtain ⟨y', e', r⟩ := q; exact ⟨y', e', Rp.stay st8 _ _ r⟩
                    | own w =>
                      obtain ⟨b, e', mb, r⟩ := q
                      exact ⟨b, e', mb, r.stay st8 (upd_ne fun z => by subst z; exact R8.pm b (.inr rfl) mb)⟩
                  · refine ⟨fun a o e n => ?_, a1.mem, fun a h => live8 a (a1.live a h)⟩
                    rw [upd_ne fun z => by subst z; rw [hD] at e; cases e]
                    exact a1.keep a o e n
        · have e : i = vs.length := by omega
          subst e
          refine .inl ⟨j1 rfl, ?_⟩
          rw [List.drop_length] at lo
          unfold lcLoop at lo
          cases lo
          have R2' : RelEnv G.K H2 G.P (or' M2 (· = D)) (wipe σ own) eN := by
            refine ⟨R2.len, fun i t e => ?_, R2.one, fun a m => m.elim (R2.mal a) fun e => R2.pal a (.inr e), fun a p => R2.pal a (.inl p), fun a p m => m.elim (R2.pm a (.inl p)) fun e => by subst e; exact npD p⟩
            have q := R2.slot i t e
            cases t with
            | emp => trivial
            | frz v => obtain ⟨x, e', r⟩ := q; exact ⟨x, e', by rw [← or_move]; exact r⟩
            | own v => obtain ⟨a, e', m, r⟩ := q; exact ⟨a, e', .inl m, by rw [← or_move]; exact r⟩
          have Rb := RelEnv.backed R1 no x2 R2'
          rw [or_move] at l
          refine p1 _ H2 x2 Rb _ ⟨D, rfl, .inr rfl, ⟨xs, hx, l, Nat.le_trans hac hsz⟩, fun j w e => ?_⟩
          rw [backD_get _ _ (by rw [R1.len, R2.len, wipe_length])] at e
          by_cases hj : j ∈ own
          · rw [if_pos hj] at e
            have := List.all_eq_true.mp no j hj
            rw [e] at this; cases this
          · rw [if_neg hj] at e
            intro q
            obtain ⟨a, ea, ma, _⟩ := R2.slot j _ e
            rw [wipe_get, if_neg hj, q] at ea
            have : D = a := by simpa using ea
            subst this
            exact R2.pm D (.inr rfl) ma
    · exact p1.elim
end
end PV

namespace PV
open PySem PySem.Spec PyProof.Rows L2
open PySem.W (dataLt alike alikeAll lt_data gt_data le_data ge_data AlikeAll minD maxD min_list_data max_list_data min_tuple_data max_tuple_data sorted_data AllAlike Sortable EachIs)

/-! ### comprehensions -/
section
variable {X : Cx} {G : Cfg} {pin : Pin}
theorem pe_ex {Y : Cx} {e : Expr} {d : ED} (h : ∀ P, PE Y e (tE (G.blk P) d)) : PE Y e (xE G d) := ⟨fun pins s σ H Q I ⟨P, q⟩ => (h P).run pins s σ H Q I q⟩
theorem pt_ex {Y : Cx} {e : Expr} {d : TD} (h : ∀ P, PT Y e (tT (G.blk P) d)) : PT Y e (xT G d) := ⟨fun pins s σ H Q I ⟨P, q⟩ => (h P).run pins s σ H Q I q⟩
theorem pg_ex {Y : Cx} {e : Expr} {d : GD} {ws : List Nat} (h : ∀ P, PG Y e (tG (G.blk P) ws d)) : PG Y e (xG G ws d) := ⟨fun pins s σ H v u Q I r ⟨P, q⟩ => (h P).run pins s σ H v u Q I r q⟩
theorem xT_yes : ∀ σ H Q, xT G dYes σ H Q → tYes σ H Q := fun σ H Q ⟨P, M, env, R, p⟩ => Post.endT (G := G.blk P) R p
/-- the block of a comprehension: how its parts are read -/
structure BlkP (X : Cx) (G : Cfg) (scope : Scope) (elt tg : Expr) (ifs : List Expr) (own ws : List Nat) (g : GD) (t : TD) (d : ED) : Prop where
  tg : ∀ (s : Shared) (H : Hp) (C : Addr) (cl : List (Str × Addr)) (fp : List Addr) (P : AP), PG (X.blk s H scope (compEnvC scope cl C X.env) fp) tg (tG (G.blk P) ws g)
  ifs : (ifs = [] ∧ t = dYes) ∨ ∃ c, ifs = [c] ∧ ∀ (s : Shared) (H : Hp) (C : Addr) (cl : List (Str × Addr)) (fp : List Addr) (P : AP), PT (X.blk s H scope (compEnvC scope cl C X.env) fp) c (tT (G.blk P) t)
  elt : ∀ (s : Shared) (H : Hp) (C : Addr) (cl : List (Str × Addr)) (fp : List Addr) (P : AP), PE (X.blk s H scope (compEnvC scope cl C X.env) fp) elt (tE (G.blk P) d)
  sub : ∀ j ∈ ws, j ∈ own
theorem se_lc {elt tg iter : Expr} {ifs : List Expr} {scope : Scope} {own : List (Str × Nat)} {pos : Pos} {ws : List Nat} {it : ID} {g : GD} {t : TD} {d : ED} (hc : X.calm = true) (hN : X.N.Nodup) (hi : PI X tg iter (tI G it)) (ok : BlkOk X.N X.env.scope scope own)
    (B : BlkP X G scope elt tg ifs (own.map (·.2)) ws g t d) (hs : ∀ x, foldedSetIterable iter X.env x = pure x) : PE X (.ListComp elt [⟨tg, iter, ifs, 0⟩] scope pos) (tE G (dLc (own.map (·.2)) it g t d)) := by
  rcases B.ifs with ⟨rfl, rfl⟩ | ⟨c, rfl, hp⟩
  · exact (pe_lc hc hN hi ok (fun s H C cl fp => pg_ex (B.tg s H C cl fp)) (fun _ _ _ _ _ => pts_nil) (fun s H C cl fp => pe_ex (B.elt s H C cl fp)) hs).pv fun σ H Q h => tE_lc B.sub xT_yes h
  · exact (pe_lc hc hN hi ok (fun s H C cl fp => pg_ex (B.tg s H C cl fp)) (fun s H C cl fp => pts_one (pt_ex (hp s H C cl fp))) (fun s H C cl fp => pe_ex (B.elt s H C cl fp)) hs).pv fun σ H Q h => tE_lc B.sub (fun _ _ _ h => h) h
theorem tS_frz {dd : ED} {i : Nat} (np : NoPins pin [i]) : ∀ D σ H, tS G pin (sAsg dd (gN i)) D σ H → tAsg (tE G dd) (gName i) D σ H := fun D σ H ⟨M, env, R, hp, p⟩ => by
  refine Post.bindF R p fun v o e1 x M1 H1 x1 R1 r1 p1 => ?_
  exact p1 M1 H1 .refl _ (R1.bindF r1) (hp.els np ⟨by rw [List.length_set], fun j h => List.getElem?_set_ne fun z => h (by simp [z])⟩)
theorem ss_setLc {o : Bool} {i : Nat} {y : Str} {py : Pos} {elt tg iter : Expr} {ifs : List Expr} {scope : Scope} {own : List (Str × Nat)} {pos spos : Pos} {ws : List Nat} {it : ID} {g : GD} {t : TD} {d : ED} (hc : X.calm = true) (hN : X.N.Nodup) (hy : X.N[i]? = some y) (hyl : X.env.scope.names.lookup y = some .local)
    (hsw : swapsWith (.ListComp elt [⟨tg, iter, ifs, 0⟩] scope pos) (some (.Name y py)) spos.line X.env = pure true) (hi : PI X tg iter (tI G it)) (ok : BlkOk X.N X.env.scope scope own)
    (B : BlkP X G scope elt tg ifs (own.map (·.2)) ws g t d) (hs : ∀ x, foldedSetIterable iter X.env x = pure x) (np : NoPins pin [i]) (np' : NoPin pin i) :
    PS X (.Assign [.Name y py] (.ListComp elt [⟨tg, iter, ifs, 0⟩] scope pos) spos) (tS G pin (if o then sOwn (dLc (own.map (·.2)) it g t d) i else sAsg (dLc (own.map (·.2)) it g t d) (gN i))) := by
  have fin : ∀ {tt : TT}, (∀ σ H Q, xT G t σ H Q → tt σ H Q) → ∀ D σ H, tS G pin (if o then sOwn (dLc (own.map (·.2)) it g t d) i else sAsg (dLc (own.map (·.2)) it g t d) (gN i)) D σ H → tAsg (tLc (tI G it) (xG G ws g) tt (xE G d) (own.map (·.2))) (gName i) D σ H := fun {tt} w D σ H h => by
    refine tE_lc (own := own.map (·.2)) B.sub w (Q := fun x H1 => gName i x σ H1 D.nx) ?_
    cases o with
    | true => exact tS_own np' D σ H h
    | false => exact tS_frz np D σ H h
  rcases B.ifs with ⟨rfl, rfl⟩ | ⟨c, rfl, hp⟩
  · exact (ps_setLc hc hN hy hyl hsw hi ok (fun s H C cl fp => pg_ex (B.tg s H C cl fp)) (fun _ _ _ _ _ => pts_nil) (fun s H C cl fp => pe_ex (B.elt s H C cl fp)) hs).pv (fin xT_yes)
  · exact (ps_setLc hc hN hy hyl hsw hi ok (fun s H C cl fp => pg_ex (B.tg s H C cl fp)) (fun s H C cl fp => pts_one (pt_ex (hp s H C cl fp))) (fun s H C cl fp => pe_ex (B.elt s H C cl fp)) hs).pv (fin fun _ _ _ h => h)
end

/-! ### what is walked -/
section
variable {X : Cx} {tg : Expr}
def iSeq (K : PySem.W.Frag) (tl : TE) : TI := fun σ H R => tl σ H fun x H1 => (∃ z, x = .str z ∧ R (Its z) H1) ∨ ∃ a, x = .ref a ∧ (((∃ xs, SqL K H1 a xs) ∧ R (Itl K a) H1) ∨ ((∃ xs, SqT K H1 a xs) ∧ R (Itt K a) H1) ∨ ∃ i j : Int, H1 a = some (.rng i j) ∧ (-(2 ^ 62) ≤ i ∧ i < 2 ^ 62 ∧ -(2 ^ 62) ≤ j ∧ j < 2 ^ 62) ∧ R (Itr i (j - i).toNat) H1)
theorem pi_seq {l : Expr} {tl : TE} (hl : PE X l tl) : PI X tg l (iSeq X.K tl) := by
  constructor
  intro pins s σ H R I h
  refine thn (hl.run pins s σ H _ I h) fun v s1 ⟨x, H1, I1, r1, hx⟩ => ?_
  rcases hx with ⟨z, rfl, q⟩ | ⟨a, e, q⟩
  · obtain ⟨t, rfl⟩ := r1
    cases ha : z.cps.all (· < 128)
    · exact wpAny_pyIter_wide ha (pi_one (tk := s1.toks) I1 _ (turn_str _ z t "str_iterator" (.inr rfl)) ⟨_, Heap.get?_push_size _ rfl, rfl, rfl⟩ q)
    · exact wpAny_pyIter_ascii ha (pi_one (tk := s1.toks) I1 _ (turn_str _ z t "str_ascii_iterator" (.inl rfl)) ⟨_, Heap.get?_push_size _ rfl, rfl, rfl⟩ q)
  subst e
  cases r1
  have new : ∀ b ∈ [s1.heap.objs.size], FpOk X pins H1 b := fun b hb => by
    obtain rfl : b = s1.heap.objs.size := by simpa using hb
    exact I1.fpOk (Nat.le_refl _) (I1.hok.fresh (Nat.le_refl _))
  have kept : ∀ o : Obj, Inv X pins σ H1 { s1 with heap := s1.heap.push o } := fun o => I1.kept (t' := s1.toks) fun b u z => Heap.get?_push_of_some _ z
  rcases q with ⟨⟨xs, hq⟩, q⟩ | ⟨⟨xs, hq⟩, q⟩ | ⟨i, j, hq, ⟨b1, b2, b3, b4⟩, q⟩
  · obtain ⟨its, rv, p, hz⟩ := I1.list hq
    exact wpAny_pyIter_list p.isList ⟨_, _, _, _, H1, rfl, kept _, turn_list a _, ⟨_, Heap.get?_push_size _ rfl, rfl, rfl⟩, new, q⟩
  · obtain ⟨its, rv, p, hz⟩ := I1.tuple hq
    exact wpAny_pyIter_tuple (show s1.heap.IsTuple a its.toArray from p) ⟨_, _, _, _, H1, rfl, kept _, turn_tuple a _, ⟨_, Heap.get?_push_size _ rfl, rfl, rfl⟩, new, q⟩
  · obtain ⟨t, u, v, e⟩ := I1.hok a _ hq
    refine wpAny_pyIter_range (show IsRange s1.heap a i j 1 t u v from e) (small_one b1 b2 b3 b4) ⟨_, _, _, _, H1, rfl, kept _, turn_range _ i (j - i).toNat, ?_, new, q⟩
    have e1 : i + ((0 : Nat) : Int) * 1 = i := by simp
    have e2 : (((j - i).toNat : Nat) : Int) - ((0 : Nat) : Int) = Builtin.Range.rangeSize i j 1 := by rw [rangeSize_one]; split <;> omega
    show IsRangeIter _ _ (i + ((0 : Nat) : Int) * 1) ((((j - i).toNat : Nat) : Int) - ((0 : Nat) : Int)) 1
    rw [e1, e2]
    exact Heap.get?_push_size _ rfl
end
/-- lo, lo + 1, .. -/
def upto (lo : Int) (n : Nat) : List Val := (List.range n).map fun (i : Nat) => Val.int (lo + (i : Int))
theorem upto_get {lo : Int} {n i : Nat} : (upto lo n)[i]? = if i < n then some (.int (lo + i)) else none := by
  unfold upto
  rw [List.getElem?_map]
  split
  · rename_i h; rw [List.getElem?_range h]; rfl
  · rename_i h; rw [List.getElem?_eq_none (by simpa using h)]; rfl
theorem upto_len {lo : Int} {n : Nat} : (upto lo n).length = n := by simp [upto]
def stepto (lo c : Int) (n : Nat) : List Val := (List.range n).map fun (i : Nat) => Val.int (lo + (i : Int) * c)
theorem stepto_get {lo c : Int} {n i : Nat} : (stepto lo c n)[i]? = if i < n then some (.int (lo + i * c)) else none := by
  unfold stepto
  rw [List.getElem?_map]
  split
  · rename_i h; rw [List.getElem?_range h]; rfl
  · rename_i h; rw [List.getElem?_eq_none (by simpa using h)]; rfl
theorem stepto_len {lo c : Int} {n : Nat} : (stepto lo c n).length = n := by simp [stepto]
theorem itOk_rng {K : PySem.W.Frag} {H : Hp} {A : AP} {lo : Int} {n : Nat} : ItOk K H A (Itr lo n) (upto lo n) := fun i H1 A1 st al => by
  refine ⟨fun hi => by rw [upto_len] at hi; exact Nat.le_of_eq hi, fun v e => ?_⟩
  rw [upto_get] at e
  split at e
  · rename_i h
    cases e
    exact ⟨h, fun y H2 ⟨e2, z⟩ => by subst e2; subst z; exact ⟨fun _ _ e => e, rp_int.mpr rfl⟩⟩
  · cases e
theorem itOk_rngC {K : PySem.W.Frag} {H : Hp} {A : AP} {lo c : Int} {n : Nat} : ItOk K H A (Itc lo c n) (stepto lo c n) := fun i H1 A1 st al => by
  refine ⟨fun hi => by rw [stepto_len] at hi; exact Nat.le_of_eq hi, fun v e => ?_⟩
  rw [stepto_get] at e
  split at e
  · rename_i h
    cases e
    exact ⟨h, fun y H2 ⟨e2, z⟩ => by subst e2; subst z; exact ⟨fun _ _ e => e, rp_int.mpr rfl⟩⟩
  · cases e
/-- the bounds of a range -/
def rgOk (i : Int) : Bool := decide (i.natAbs < 2 ^ 62)
theorem rgOk_iff {i : Int} (h : rgOk i = true) : -(2 ^ 62) ≤ i ∧ i < 2 ^ 62 := by
  have h := of_decide_eq_true h
  omega
def seqV : Val → Option (List Val)
  | .lst vs => some vs
  | .tup vs => some vs
  | .scr is => some (is.map .int)
  | .rng i j => if rgOk i && rgOk j then some (upto i (j - i).toNat) else none
  | .str z => some (z.cps.toList.map fun c => Val.str ⟨#[c]⟩)
  | _ => none
def iVal (d : ED) : ID := fun env => d env >>= fun a => match seqV a.1 with
  | some vs => .ok (vs, a.2.2)
  | none => .bad
section
variable {K : PySem.W.Frag} {H : Hp} {A : AP}
theorem itOk_list {a : Addr} {xs : List V} {vs : List Val} (na : ¬ A a) (ha : H a = some (.lst xs)) (l : RpL K H A vs xs) : ItOk K H A (Itl K a) vs := fun i H1 A1 st al => by
  have hq := SqL.of (K := K) (st a _ ha na).1
  have l1 := RpL.stay st _ _ l
  refine ⟨fun hi => ⟨xs, hq, by rw [l.length]; omega⟩, fun v e => ?_⟩
  obtain ⟨x, ex, rx⟩ := l1.get e
  refine ⟨⟨xs, x, hq, ex⟩, fun y H2 ⟨e2, z⟩ => ?_⟩
  subst e2
  have := z xs hq
  rw [ex] at this; cases this
  exact ⟨fun _ _ e => e, rx⟩
theorem itOk_tup {a : Addr} {xs : List V} {vs : List Val} (na : ¬ A a) (ha : H a = some (.tup xs)) (l : RpL K H A vs xs) : ItOk K H A (Itt K a) vs := fun i H1 A1 st al => by
  have hq := SqT.of (K := K) (st a _ ha na).1
  have l1 := RpL.stay st _ _ l
  refine ⟨fun hi => ⟨xs, hq, by rw [l.length]; omega⟩, fun v e => ?_⟩
  obtain ⟨x, ex, rx⟩ := l1.get e
  refine ⟨⟨xs, x, hq, ex⟩, fun y H2 ⟨e2, z⟩ => ?_⟩
  subst e2
  have := z xs hq
  rw [ex] at this; cases this
  exact ⟨fun _ _ e => e, rx⟩
theorem itOk_scr {a : Addr} {is : List Int} (ha : ScrAt K H A a (is.map V.int)) : ItOk K H A (Itl K a) (is.map .int) := fun i H1 A1 st al => by
  have hq : SqL K H1 a (is.map V.int) := ha.elim (fun ⟨na, o, h⟩ => .inl (.inr ⟨o, (st a _ h na).1⟩)) .inr
  refine ⟨fun hi => ⟨_, hq, by rw [List.length_map] at hi ⊢; omega⟩, fun v e => ?_⟩
  rw [List.getElem?_map] at e
  cases e1 : is[i]? with
  | none => rw [e1] at e; cases e
  | some k =>
    rw [e1] at e; cases e
    have ex : (is.map V.int)[i]? = some (.int k) := by rw [List.getElem?_map, e1]; rfl
    refine ⟨⟨_, _, hq, ex⟩, fun y H2 ⟨e2, z⟩ => ?_⟩
    subst e2
    have := z _ hq
    rw [ex] at this; cases this
    exact ⟨fun _ _ e => e, rp_int.mpr rfl⟩
theorem itOk_str {z : Str} : ItOk K H A (Its z) (z.cps.toList.map fun c => Val.str ⟨#[c]⟩) := fun i H1 A1 st al => by
  refine ⟨fun hi => by rw [List.length_map, Array.length_toList] at hi; exact Nat.le_of_eq hi, fun v e => ?_⟩
  rw [List.getElem?_map] at e
  cases e1 : z.cps.toList[i]? with
  | none => rw [e1] at e; cases e
  | some c =>
    rw [e1] at e; cases e
    have ec : z.cps[i]? = some c := by rw [← Array.getElem?_toList]; exact e1
    refine ⟨(Array.getElem?_eq_some_iff.mp ec).1, fun y H2 ⟨e2, c', ec', ey⟩ => ?_⟩
    subst e2 ey
    rw [ec] at ec'; cases ec'
    exact ⟨fun _ _ e => e, rp_str.mpr rfl⟩
end
section
variable {X : Cx} {G : Cfg} {tg e e2 e3 : Expr} {d : ED} {ds : List ED} {p pos : Pos}
theorem si_val (hK : X.K = G.K) (he : PE X e (tE G d)) : PI X tg e (tI G (iVal d)) := (pi_seq he).pv fun σ H R ⟨M, env, Rl, p⟩ => by
  refine Post.bindF Rl p fun v o e1 x M1 H1 x1 R1 r1 p1 => ?_
  simp only at p1
  cases v <;> try exact p1.elim
  case str z =>
    rw [rp_str] at r1; subst r1
    exact .inl ⟨z, rfl, p1 M1 H1 .refl R1 _ itOk_str⟩
  case lst vs =>
    rw [rp_lst] at r1
    obtain ⟨a, xs, rfl, na, ha, l, z⟩ := r1
    exact .inr ⟨a, rfl, .inl ⟨⟨xs, SqL.of ha⟩, p1 M1 H1 .refl R1 _ (by rw [hK]; exact itOk_list na ha l)⟩⟩
  case tup vs =>
    rw [rp_tup] at r1
    obtain ⟨a, xs, rfl, na, ha, l, z⟩ := r1
    exact .inr ⟨a, rfl, .inr (.inl ⟨⟨xs, SqT.of ha⟩, p1 M1 H1 .refl R1 _ (by rw [hK]; exact itOk_tup na ha l)⟩)⟩
  case scr is =>
    rw [rp_scr] at r1
    obtain ⟨a, rfl, ha⟩ := r1
    exact .inr ⟨a, rfl, .inl ⟨⟨_, by rw [hK]; exact ha.sq⟩, p1 M1 H1 .refl R1 _ (by rw [hK]; exact itOk_scr ha)⟩⟩
  case rng i j =>
    rw [rp_rng] at r1
    obtain ⟨a, rfl, na, ha⟩ := r1
    simp only [seqV] at p1
    split at p1
    · rename_i vs e
      split at e
      · rename_i h
        rw [Bool.and_eq_true] at h
        cases e
        exact .inr ⟨a, rfl, .inr (.inr ⟨i, j, ha, ⟨(rgOk_iff h.1).1, (rgOk_iff h.1).2, (rgOk_iff h.2).1, (rgOk_iff h.2).2⟩, p1 M1 H1 .refl R1 _ itOk_rng⟩)⟩
      · cases e
    · exact p1.elim
/-- range's items, by its arguments -/
def rangeV : List Val → Option (List Val)
  | [.int j] => if rgOk j then some (upto 0 j.toNat) else none
  | [.int i, .int j] => if rgOk i && rgOk j then some (upto i (j - i).toNat) else none
  | [.int i, .int j, .int c] => if rgOk i && rgOk j && decide (c = -1) then some (stepto i (-1) (i - j).toNat) else none
  | _ => none
def iRng (ds : List ED) : ID := fun env => dList ds env >>= fun r => match rangeV r.1 with
  | some vs => .ok (vs, r.2)
  | none => .bad
theorem si_rng1 (hg : Gl X "range") (hm : X.mg "range" = none) (ha : PA X [e] (tL G ds)) (hn : ds.length = 1) (hs : starEach [e] X.env = [(false, eval e X.env)]) : PI X tg (.Call (.Name "range" p) [e] [] pos) (tI G (iRng ds)) := (pi_range1 hg hm ha hs).pv fun σ H R ⟨M, env, Rl, p⟩ => by
  refine Post.bindL Rl p fun vs e2 xs M2 H2 q x2 R2 r2 p2 => ?_
  have hl := dList_len q
  simp only at p2 hl
  match vs, hl with
  | [v], _ =>
    cases v <;> try exact p2.elim
    rename_i j _
    rw [rpl_cons] at r2
    obtain ⟨x, r, rfl, h1, h2⟩ := r2
    rw [rp_int] at h1; rw [rpl_nil] at h2; subst h1 h2
    simp only [rangeV] at p2
    split at p2
    · rename_i vs e
      split at e
      · rename_i h
        cases e
        exact ⟨j, rfl, (rgOk_iff h).1, (rgOk_iff h).2, p2 M2 H2 .refl R2 _ itOk_rng⟩
      · cases e
    · exact p2.elim
  | [], z => rw [hn] at z; cases z
  | _ :: _ :: _, z => rw [hn] at z; simp at z
theorem si_rng2 (hg : Gl X "range") (hm : X.mg "range" = none) (ha : PA X [e, e2] (tL G ds)) (hn : ds.length = 2) (hs : starEach [e, e2] X.env = [(false, eval e X.env), (false, eval e2 X.env)]) (hs2 : starEach [e2] X.env = [(false, eval e2 X.env)]) : PI X tg (.Call (.Name "range" p) [e, e2] [] pos) (tI G (iRng ds)) := (pi_range2 hg hm ha hs hs2).pv fun σ H R ⟨M, env, Rl, p⟩ => by
  refine Post.bindL Rl p fun vs e2 xs M2 H2 q x2 R2 r2 p2 => ?_
  have hl := dList_len q
  rw [hn] at hl
  simp only at p2 hl
  match vs, hl with
  | [v, w], _ =>
    cases v <;> try exact p2.elim
    cases w <;> try exact p2.elim
    rename_i i j _
    rw [rpl_cons] at r2
    obtain ⟨x, r, rfl, h1, h2⟩ := r2
    rw [rpl_cons] at h2
    obtain ⟨y, r, rfl, h2, h3⟩ := h2
    rw [rp_int] at h1 h2; rw [rpl_nil] at h3; subst h1 h2 h3
    simp only [rangeV] at p2
    split at p2
    · rename_i vs e
      split at e
      · rename_i h
        rw [Bool.and_eq_true] at h
        cases e
        exact ⟨i, j, rfl, ⟨(rgOk_iff h.1).1, (rgOk_iff h.1).2, (rgOk_iff h.2).1, (rgOk_iff h.2).2⟩, p2 M2 H2 .refl R2 _ itOk_rng⟩
      · cases e
    · exact p2.elim
theorem si_rng3 (hg : Gl X "range") (hm : X.mg "range" = none) (ha : PA X [e, e2, e3] (tL G ds)) (hn : ds.length = 3) (hs : starEach [e, e2, e3] X.env = (false, eval e X.env) :: starEach [e2, e3] X.env) (hpl : (backTo pos (starEach [e2, e3] X.env)).any (·.1) = false) :
    PI X tg (.Call (.Name "range" p) [e, e2, e3] [] pos) (tI G (iRng ds)) := (pi_range3 hg hm ha hs hpl).pv fun σ H R ⟨M, env, Rl, p⟩ => by
  refine Post.bindL Rl p fun vs e2 xs M2 H2 q x2 R2 r2 p2 => ?_
  have hl := dList_len q
  rw [hn] at hl
  simp only at p2 hl
  match vs, hl with
  | [v, w, u], _ =>
    cases v <;> try exact p2.elim
    cases w <;> try exact p2.elim
    cases u <;> try exact p2.elim
    rename_i i j c _
    rw [rpl_cons] at r2
    obtain ⟨x, r, rfl, h1, h2⟩ := r2
    rw [rpl_cons] at h2
    obtain ⟨y, r, rfl, h2, h3⟩ := h2
    rw [rpl_cons] at h3
    obtain ⟨z, r, rfl, h3, h4⟩ := h3
    rw [rp_int] at h1 h2 h3; rw [rpl_nil] at h4; subst h1 h2 h3 h4
    simp only [rangeV] at p2
    split at p2
    · rename_i vs e
      split at e
      · rename_i h
        simp only [Bool.and_eq_true, decide_eq_true_eq] at h
        obtain ⟨⟨h1, h2⟩, rfl⟩ := h
        cases e
        exact ⟨i, j, -1, _, rfl, RgC.neg (rgOk_iff h1).1 (rgOk_iff h1).2 (rgOk_iff h2).1 (rgOk_iff h2).2, p2 M2 H2 .refl R2 _ itOk_rngC⟩
      · cases e
    · exact p2.elim
end
end PV

namespace PV
open PySem PySem.Spec PyProof.Rows L2
open PySem.W (dataLt alike alikeAll lt_data gt_data le_data ge_data AlikeAll minD maxD min_list_data max_list_data min_tuple_data max_tuple_data sorted_data AllAlike Sortable EachIs dataLe)

/-- builtins, by values -/
def OpSLR (K : PySem.W.Frag) (r : List V → Hp → VK → Prop) (f : Val → Res (Val × Bool)) : Prop :=
  ∀ H A v x, (∀ a, A a → H a ≠ none) → RdR K H A v x → Ans K H A (r [x]) (f v)
def on1 (f : Val → Res (Val × Bool)) : List Val → Res (Val × Bool)
  | [v] => f v
  | _ => .bad
def on2 (f : Val → Val → Res (Val × Bool)) : List Val → Res (Val × Bool)
  | [v, w] => f v w
  | _ => .bad
theorem OpSLR.opl {K : PySem.W.Frag} {r : List V → Hp → VK → Prop} {f : Val → Res (Val × Bool)} (h : OpSLR K r f) : OpSL K r (on1 f) := fun H A vs xs al l => by
  match vs with
  | [] => exact bad_ans
  | [v] => rw [rpl_cons] at l; obtain ⟨x, r, rfl, h1, h2⟩ := l; rw [rpl_nil] at h2; subst h2; exact h H A v x al h1.rdr
  | _ :: _ :: _ => exact bad_ans
def dCBS (f : Val → Res (Val × Bool)) (i : Nat) : ED := fun env => match env[i]? with
  | some (.frz v) | some (.own v) => f v >>= fun z => .ok (z.1, z.2, env)
  | _ => .bad
theorem tE_CBS {G : Cfg} {r : List V → Hp → VK → Prop} {f : Val → Res (Val × Bool)} {i : Nat} (hs : OpSLR G.K r f) {σ : L2.St} {H : Hp} {Q : VK} (h : tE G (dCBS f i) σ H Q) : tCB r (tCons (tVar i) tNil) σ H Q := by
  obtain ⟨M, env, R, p⟩ := h
  have fin : ∀ v, (env[i]? = some (.frz v) ∨ env[i]? = some (.own v)) → Post G M H (okE G σ Q) (f v >>= fun z => .ok (z.1, z.2, env)) → tCB r (tCons (tVar i) tNil) σ H Q := fun v hv p => by
    obtain ⟨x, e, rr⟩ := R.rdr hv
    exact ⟨x, e, fin_ans R (hs H _ v x R.al rr) p⟩
  unfold dCBS at p
  split at p
  · rename_i v h; exact fin v (.inl h) p
  · rename_i v h; exact fin v (.inr h) p
  · exact p.elim

/-! len -/
def oLen : Val → Res (Val × Bool)
  | .str s => if s.length ≤ sizeLine then .ok (.int s.length, false) else .bad
  | .tup vs => .ok (.int vs.length, false)
  | .lst vs => .ok (.int vs.length, false)
  | .dK kvs => .ok (.int kvs.length, false)
  | _ => .bad
def rLenV (K : PySem.W.Frag) : List V → Hp → VK → Prop := fun xs H Q => (∃ x n, xs = [x] ∧ LenV K x H n ∧ Q (.int n) H) ∨ ∃ a kvs, xs = [V.ref a] ∧ Rd H a (.dK kvs) ∧ Q (.int kvs.length) H
theorem call_lenV {X : Cx} : CallR X (.builtin "len") (rLenV X.K) := by
  intro pins s σ H xs us Q I r h
  rcases h with h | ⟨a, kvs, rfl, ha, q⟩
  · exact call_len pins s σ H xs us Q I r h
  · cases r with
    | cons r1 r2 =>
      cases r2
      cases r1
      exact d_len I ha fun t s' I' => ⟨.int kvs.length, H, I', ⟨t, rfl⟩, q⟩
theorem s_len {K : PySem.W.Frag} : OpSLR K (rLenV K) oLen := by
  intro H A v x al hv
  cases v <;> try exact bad_ans
  case str s =>
    have hv : Rp K H A (.str s) x := hv
    rw [rp_str] at hv; subst hv
    show Ans _ _ _ _ (if s.length ≤ sizeLine then _ else _)
    split
    · rename_i h; exact ans_pure _ (fun _ => rp_int.mpr rfl) fun Q q => .inl ⟨_, s.length, rfl, ⟨h, rfl⟩, q⟩
    · exact bad_ans
  case tup vs =>
    have hv : Rp K H A (.tup vs) x := hv
    rw [rp_tup] at hv
    obtain ⟨a, xs, rfl, _, ha, l, _⟩ := hv
    exact ans_pure _ (fun _ => rp_int.mpr rfl) fun Q q => .inl ⟨_, vs.length, rfl, .inr ⟨xs, SqT.of ha, l.length.symm⟩, q⟩
  case lst vs =>
    obtain ⟨a, xs, rfl, ha, l, _⟩ := hv
    exact ans_pure _ (fun _ => rp_int.mpr rfl) fun Q q => .inl ⟨_, vs.length, rfl, .inl ⟨xs, SqL.of ha, l.length.symm⟩, q⟩
  case dK vs =>
    obtain ⟨a, xs, rfl, ha, l, _⟩ := hv
    exact ans_pure _ (fun _ => rp_int.mpr rfl) fun Q q => .inr ⟨a, xs, rfl, ha, by rw [l.length]; exact q⟩

/-! sum -/
def intsV : List Val → Option (List Int)
  | [] => some []
  | .int i :: vs => (intsV vs).map (i :: ·)
  | _ => none
theorem intsV_map (is : List Int) : intsV (is.map .int) = some is := by
  induction is with
  | nil => rfl
  | cons i is ih => simp [intsV, ih]
theorem intsV_rp {K : PySem.W.Frag} {H : Hp} {A : AP} : ∀ {vs : List Val} {xs : List V} {is : List Int}, intsV vs = some is → RpL K H A vs xs → xs = is.map V.int
  | [], xs, is, e, l => by rw [rpl_nil] at l; subst l; cases e; rfl
  | v :: vs, xs, is, e, l => by
    rw [rpl_cons] at l
    obtain ⟨x, r, rfl, h1, h2⟩ := l
    cases v <;> try (cases e; done)
    rename_i i
    change (intsV vs).map (i :: ·) = some is at e
    cases q : intsV vs with
    | none => rw [q] at e; cases e
    | some js =>
      rw [q] at e; cases e
      rw [rp_int] at h1; subst h1
      rw [intsV_rp q h2]; rfl
def rSumV (K : PySem.W.Frag) : List V → Hp → VK → Prop := fun vs H Q => ∃ (a : Addr) (ns : List Int), vs = [V.ref a] ∧ (SqL K H a (ns.map V.int) ∨ SqT K H a (ns.map V.int)) ∧ Q (.int ns.sum) H
theorem preSum_getD (ns : List Int) : ∀ n, n ≤ ns.length → preSum (fun i => ns.getD i 0) n = (ns.take n).sum
  | 0, _ => by simp [preSum]
  | n + 1, h => by
    rw [preSum, preSum_getD ns n (by omega), List.take_succ, List.sum_append]
    simp [List.getD, List.getElem?_eq_getElem (show n < ns.length by omega)]
theorem call_sumV {X : Cx} (hc : X.calm = true) : CallR X (.builtin "sum") (rSumV X.K) := by
  intro pins s σ H vs us Q I r h
  obtain ⟨a, ns, rfl, hs, q⟩ := h
  rcases hs with hs | hs
  · exact cr_sum hc pins s σ H _ us Q I r ⟨a, ns, rfl, hs, q⟩
  · rw [Vals.ref1 r]
    obtain ⟨its, rv, p, hz⟩ := I.tuple hs
    have ia : IntsAre its ns := rv.ints
    have hlt : a < s.heap.objs.size := by obtain ⟨_, e, _⟩ := id p; exact Heap.lt_size e
    refine call_sum_walkG (wpAny_pyIter_tuple (show s.heap.IsTuple a its.toArray from p) ?_)
    refine ⟨s.heap.objs.size, _, _, _, _, _, fun i => ns.getD i 0, rfl, Walks.tuple (A := X.A.in1) (I.ok.hd hc) _ a (Nat.ne_of_lt hlt) its.toArray, ⟨⟨_, Heap.get?_push_size _ rfl, rfl, rfl⟩, Heap.IsTuple.push p _⟩, fun b hb => ?_, fun i v e => ?_, fun h' tk t' hk => ?_⟩
    · show b < (s.heap.push _).objs.size
      rw [Heap.size_push]
      have : b = s.heap.objs.size ∨ b = a := by simpa using hb
      rcases this with rfl | rfl
      · exact Nat.lt_succ_self _
      · exact Nat.lt_succ_of_lt hlt
    · have hi : i < its.length := by simpa using (Array.getElem?_eq_some_iff.mp e).1
      obtain ⟨t, et⟩ := PyProof.Rows.IntsAre.int_at ia i its.toArray[i] (by simp [hi])
      refine ⟨t, ?_⟩
      have : its.toArray[i] = v := by
        obtain ⟨_, z⟩ := Array.getElem?_eq_some_iff.mp e
        exact z
      rw [← this]; exact et
    · have e1 : its.toArray.size = ns.length := by rw [List.size_toArray]; exact ia.length
      rw [e1, preSum_getD ns _ (Nat.le_refl _), List.take_length]
      refine ⟨.int _, H, I.kept (t' := tk) (fun b o e => hk b o (fun hb => ?_) (Heap.get?_push_of_some _ e)), ⟨_, rfl⟩, q⟩
      have : b = s.heap.objs.size := by simpa using hb
      subst this
      exact absurd (Heap.lt_size e) (Nat.lt_irrefl _)
def oSum : Val → Res (Val × Bool)
  | .lst vs => match intsV vs with
    | some is => .ok (.int is.sum, false)
    | none => .bad
  | .tup vs => match intsV vs with
    | some is => .ok (.int is.sum, false)
    | none => .bad
  | _ => .bad
theorem s_sum {K : PySem.W.Frag} : OpSLR K (rSumV K) oSum := by
  intro H A v x al hv
  cases v <;> try exact bad_ans
  case tup vs =>
    have hv : Rp K H A (.tup vs) x := hv
    rw [rp_tup] at hv
    obtain ⟨a, xs, rfl, _, ha, l, _⟩ := hv
    show Ans _ _ _ _ (match intsV vs with | some is => _ | none => _)
    cases e : intsV vs with
    | none => exact bad_ans
    | some is => exact ans_pure _ (fun _ => rp_int.mpr rfl) fun Q q => ⟨a, is, rfl, .inr (by rw [← intsV_rp e l]; exact SqT.of ha), q⟩
  case lst vs =>
    obtain ⟨a, xs, rfl, ha, l, _⟩ := hv
    show Ans _ _ _ _ (match intsV vs with | some is => _ | none => _)
    cases e : intsV vs with
    | none => exact bad_ans
    | some is => exact ans_pure _ (fun _ => rp_int.mpr rfl) fun Q q => ⟨a, is, rfl, .inl (by rw [← intsV_rp e l]; exact SqL.of ha), q⟩

/-! min, max, sorted of data -/
def dataOk (vs : List Val) : Bool := PyData.canLayAll0 (toDs vs) && decide (PyData.depthAll (toDs vs) ≤ 60)
def alikesV (vs : List Val) : Bool := vs.all fun v => vs.all fun w => alike (toD v) (toD w)
def minV (v : Val) (vs : List Val) : Val := vs.foldl (fun a y => if ltV y a then y else a) v
def maxV (v : Val) (vs : List Val) : Val := vs.foldl (fun a y => if ltV a y then y else a) v
theorem minV_toD : ∀ (vs : List Val) (v : Val), toD (minV v vs) = minD (toD v) (vs.map toD)
  | [], v => rfl
  | y :: vs, v => by
    show toD (minV (if ltV y v then y else v) vs) = minD (if dataLt (toD y) (toD v) then toD y else toD v) (vs.map toD)
    rw [minV_toD vs]
    unfold ltV
    cases dataLt (toD y) (toD v) <;> rfl
theorem maxV_toD : ∀ (vs : List Val) (v : Val), toD (maxV v vs) = maxD (toD v) (vs.map toD)
  | [], v => rfl
  | y :: vs, v => by
    show toD (maxV (if ltV v y then y else v) vs) = maxD (if dataLt (toD v) (toD y) then toD y else toD v) (vs.map toD)
    rw [maxV_toD vs]
    unfold ltV
    cases dataLt (toD v) (toD y) <;> rfl
theorem minV_mem : ∀ (vs : List Val) (v : Val), minV v vs ∈ v :: vs
  | [], v => List.mem_cons_self
  | y :: vs, v => by
    show minV (if ltV y v then y else v) vs ∈ _
    have := minV_mem vs (if ltV y v then y else v)
    rcases List.mem_cons.mp this with e | h
    · rw [e]; split <;> simp
    · exact List.mem_cons_of_mem _ (List.mem_cons_of_mem _ h)
theorem maxV_mem : ∀ (vs : List Val) (v : Val), maxV v vs ∈ v :: vs
  | [], v => List.mem_cons_self
  | y :: vs, v => by
    show maxV (if ltV v y then y else v) vs ∈ _
    have := maxV_mem vs (if ltV v y then y else v)
    rcases List.mem_cons.mp this with e | h
    · rw [e]; split <;> simp
    · exact List.mem_cons_of_mem _ (List.mem_cons_of_mem _ h)
mutual
theorem toD_inj : ∀ (v w : Val), (toD v).canLay0 = true → (toD w).canLay0 = true → toD v = toD w → v = w
  | .non, w, h1, h2, e => by cases w <;> simp [toD, PyData.canLay0] at e h2 ⊢
  | .bl b, w, h1, h2, e => by cases w <;> simp [toD, PyData.canLay0] at e h2 ⊢; exact e
  | .int b, w, h1, h2, e => by cases w <;> simp [toD, PyData.canLay0] at e h2 ⊢; exact e
  | .str b, w, h1, h2, e => by cases w <;> simp [toD, PyData.canLay0] at e h2 ⊢; exact e
  | .tup vs, w, h1, h2, e => by
    cases w <;> simp only [toD, PyData.canLay0] at e h1 h2 <;> try (cases e; done)
    rw [PyData.tuple.injEq] at e
    rw [toDs_inj vs _ h1 h2 e]
  | .lst vs, w, h1, h2, e => by
    cases w <;> simp only [toD, PyData.canLay0] at e h1 h2 <;> try (cases e; done)
    rw [PyData.list.injEq] at e
    rw [toDs_inj vs _ h1 h2 e]
  | .dK _, w, h1, h2, e => by simp [toD, PyData.canLay0] at h1
  | .dT _, w, h1, h2, e => by simp [toD, PyData.canLay0] at h1
  | .ty _, w, h1, h2, e => by simp [toD, PyData.canLay0] at h1
  | .glo _, w, h1, h2, e => by simp [toD, PyData.canLay0] at h1
  | .scr _, w, h1, h2, e => by simp [toD, PyData.canLay0] at h1
  | .rng _ _, w, h1, h2, e => by simp [toD, PyData.canLay0] at h1
theorem toDs_inj : ∀ (vs ws : List Val), PyData.canLayAll0 (toDs vs) = true → PyData.canLayAll0 (toDs ws) = true → toDs vs = toDs ws → vs = ws
  | [], ws, h1, h2, e => by cases ws <;> simp [toDs] at e ⊢
  | v :: vs, ws, h1, h2, e => by
    cases ws with
    | nil => simp [toDs] at e
    | cons w ws =>
      simp only [toDs, PyData.canLayAll0, Bool.and_eq_true, List.cons.injEq] at h1 h2 e
      rw [toD_inj v w h1.1 h2.1 e.1, toDs_inj vs ws h1.2 h2.2 e.2]
end
theorem lay_mem : ∀ {vs : List Val} {v : Val}, PyData.canLayAll0 (toDs vs) = true → v ∈ vs → (toD v).canLay0 = true
  | w :: vs, v, h, m => by
    simp only [toDs, PyData.canLayAll0, Bool.and_eq_true] at h
    rcases List.mem_cons.mp m with rfl | m
    · exact h.1
    · exact lay_mem h.2 m
/-- the least or greatest of a list or tuple of data -/
def rBest (K : PySem.W.Frag) (best : PyData → List PyData → PyData) : List V → Hp → VK → Prop := fun vs H Q => ∃ (a : Addr) (xs : List V) (d : PyData) (ds : List PyData), vs = [.ref a] ∧ (SqL K H a xs ∨ SqT K H a xs) ∧ DpAll K H xs (d :: ds) ∧
  PyData.canLayAll0 (d :: ds) = true ∧ AlikeAll (d :: ds) ∧ PyData.depthAll (d :: ds) ≤ 60 ∧ ∀ (i : Nat) (x : V), xs[i]? = some x → (d :: ds)[i]? = some (best d ds) → Q x H
section
variable {X : Cx} {K : PySem.W.Frag}
theorem reads_ix {h : Heap} {vs : List Value} {ds : List PyData} {as bs : List Addr} {i : Nat} {v : Value} {d : PyData} (lay : PyData.canLayAll0 ds = true) (hr : ReadsAll h vs ds as) (e : vs[i]? = some v) (r : Reads h v d bs) (hd : d.canLay0 = true) : ds[i]? = some d := by
  have := SeqAt.readsAll_map ds vs as lay hr
  rw [← this, List.getElem?_map, e]
  exact congrArg some (SeqAt.readOf_eq hd r)
theorem best_lay {ds : List PyData} {f : PyData → PyData → Bool} : ∀ {d : PyData}, PyData.canLayAll0 (d :: ds) = true → (ds.foldl (fun a y => if f a y then y else a) d).canLay0 = true := by
  induction ds with
  | nil => intro d h; simpa [PyData.canLayAll0] using h
  | cons y ds ih =>
    intro d h
    simp only [PyData.canLayAll0, Bool.and_eq_true] at h
    refine ih ?_
    simp only [PyData.canLayAll0, Bool.and_eq_true]
    split
    · exact h.2
    · exact ⟨h.1, h.2.2⟩
theorem call_minV (hc : X.calm = true) (hu : X.A.units + 64 < cLine) : CallR X (.builtin "min") (rBest X.K minD) := by
  intro pins s σ H vs us Q I r h
  obtain ⟨a, xs, d, ds, rfl, hs, dp, lay, al, dep, q⟩ := h
  rw [Vals.ref1 r]
  have fin : ∀ (its : List Value), Vals xs its → ∀ (i : Nat) v h' tk bs, its.toArray[i]? = some v → Reads h' v (minD d ds) bs → (∀ b o, s.heap.get? b = some o → h'.get? b = some o) → (∃ as, ReadsAll s.heap its (d :: ds) as) → EP X pins σ Q v { s with heap := h', toks := tk } := fun its rv i v h' tk bs e rd hk ⟨as, ra⟩ => by
    have e' : its[i]? = some v := by simpa using e
    have hx : ∃ x, xs[i]? = some x ∧ RelV x v := by
      cases q : xs[i]? with
      | none => have := rv.none_of q; rw [this] at e'; cases e'
      | some x => obtain ⟨u, h1, h2⟩ := rv.get q; rw [h1] at e'; cases e'; exact ⟨x, rfl, h2⟩
    obtain ⟨x, ex, rx⟩ := hx
    refine ⟨x, H, I.kept (t' := tk) hk, rx, q i x ex ?_⟩
    obtain ⟨as', ra'⟩ : ∃ as', ReadsAll h' its (d :: ds) as' := ⟨_, PyProof.Rows.ReadsAll.keeps hk ra⟩
    exact reads_ix lay ra' e' rd (best_lay (f := fun a y => dataLt y a) lay)
  rcases hs with hs | hs
  · obtain ⟨its, rv, p, hz⟩ := I.list hs
    obtain ⟨as, ra⟩ := Dp.readsAll I (d :: ds) _ its dp rv
    exact min_list_data (I.ok.hd hc) p.isList (by simpa using ra) al (by omega) fun i v h' tk bs e rd hk => fin its rv i v h' tk bs e rd hk ⟨as, ra⟩
  · obtain ⟨its, rv, p, hz⟩ := I.tuple hs
    obtain ⟨as, ra⟩ := Dp.readsAll I (d :: ds) _ its dp rv
    exact min_tuple_data (I.ok.hd hc) (show s.heap.IsTuple a its.toArray from p) (by simpa using ra) al (by omega) fun i v h' tk bs e rd hk => fin its rv i v h' tk bs e rd hk ⟨as, ra⟩
theorem call_maxV (hc : X.calm = true) (hu : X.A.units + 64 < cLine) : CallR X (.builtin "max") (rBest X.K maxD) := by
  intro pins s σ H vs us Q I r h
  obtain ⟨a, xs, d, ds, rfl, hs, dp, lay, al, dep, q⟩ := h
  rw [Vals.ref1 r]
  have fin : ∀ (its : List Value), Vals xs its → ∀ (i : Nat) v h' tk bs, its.toArray[i]? = some v → Reads h' v (maxD d ds) bs → (∀ b o, s.heap.get? b = some o → h'.get? b = some o) → (∃ as, ReadsAll s.heap its (d :: ds) as) → EP X pins σ Q v { s with heap := h', toks := tk } := fun its rv i v h' tk bs e rd hk ⟨as, ra⟩ => by
    have e' : its[i]? = some v := by simpa using e
    have hx : ∃ x, xs[i]? = some x ∧ RelV x v := by
      cases q : xs[i]? with
      | none => have := rv.none_of q; rw [this] at e'; cases e'
      | some x => obtain ⟨u, h1, h2⟩ := rv.get q; rw [h1] at e'; cases e'; exact ⟨x, rfl, h2⟩
    obtain ⟨x, ex, rx⟩ := hx
    refine ⟨x, H, I.kept (t' := tk) hk, rx, q i x ex ?_⟩
    obtain ⟨as', ra'⟩ : ∃ as', ReadsAll h' its (d :: ds) as' := ⟨_, PyProof.Rows.ReadsAll.keeps hk ra⟩
    exact reads_ix lay ra' e' rd (best_lay (f := fun a y => dataLt a y) lay)
  rcases hs with hs | hs
  · obtain ⟨its, rv, p, hz⟩ := I.list hs
    obtain ⟨as, ra⟩ := Dp.readsAll I (d :: ds) _ its dp rv
    exact max_list_data (I.ok.hd hc) p.isList (by simpa using ra) al (by omega) fun i v h' tk bs e rd hk => fin its rv i v h' tk bs e rd hk ⟨as, ra⟩
  · obtain ⟨its, rv, p, hz⟩ := I.tuple hs
    obtain ⟨as, ra⟩ := Dp.readsAll I (d :: ds) _ its dp rv
    exact max_tuple_data (I.ok.hd hc) (show s.heap.IsTuple a its.toArray from p) (by simpa using ra) al (by omega) fun i v h' tk bs e rd hk => fin its rv i v h' tk bs e rd hk ⟨as, ra⟩
def bestOk (v : Val) (vs : List Val) : Bool := dataOk (v :: vs) && alikesV (v :: vs) && (v :: vs).all fun w => match w with | .non => false | _ => true
def oBest (best : Val → List Val → Val) : Val → Res (Val × Bool)
  | .lst (v :: vs) => if bestOk v vs then .ok (best v vs, false) else .bad
  | .tup (v :: vs) => if bestOk v vs then .ok (best v vs, false) else .bad
  | _ => .bad
theorem alikeAll_of {v : Val} {vs : List Val} (h : bestOk v vs = true) : AlikeAll (toD v :: toDs vs) := by
  unfold bestOk at h
  simp only [Bool.and_eq_true, alikesV, List.all_eq_true] at h
  have e : toD v :: toDs vs = (v :: vs).map toD := by rw [toDs_map]; rfl
  rw [e]
  refine ⟨fun x hx y hy => ?_, fun x hx => ?_⟩
  · obtain ⟨a, ha, rfl⟩ := List.mem_map.mp hx
    obtain ⟨b, hb, rfl⟩ := List.mem_map.mp hy
    exact h.1.2 a ha b hb
  · obtain ⟨a, ha, rfl⟩ := List.mem_map.mp hx
    have := h.2 a ha
    cases a <;> simp [toD] at this ⊢
theorem s_best {bD : PyData → List PyData → PyData} {best : Val → List Val → Val} (hb : ∀ vs v, toD (best v vs) = bD (toD v) (vs.map toD)) (hm : ∀ vs v, best v vs ∈ v :: vs) : OpSLR K (rBest K bD) (oBest best) := by
  intro H A v x al hv
  have key : ∀ (v : Val) (vs : List Val) (a : Addr) (xs : List V), RpL K H A (v :: vs) xs → (SqL K H a xs ∨ SqT K H a xs) → bestOk v vs = true → Ans K H A (rBest K bD [.ref a]) (.ok (best v vs, false)) := fun v vs a xs l hs ok => by
    have ok' := ok
    unfold bestOk dataOk at ok'
    simp only [Bool.and_eq_true, decide_eq_true_eq] at ok'
    intro Q q
    refine ⟨a, xs, toD v, toDs vs, rfl, hs, RpL.dp (v :: vs) xs ok'.1.1.1 l, ok'.1.1.1, alikeAll_of ok, ok'.1.1.2, fun i x ex e => ?_⟩
    obtain ⟨w, ew, rw_⟩ := l.get' ex
    have e2 : toD w = bD (toD v) (toDs vs) := by
      have : (toD v :: toDs vs) = (v :: vs).map toD := by rw [toDs_map]; rfl
      rw [this, List.getElem?_map, ew] at e
      exact Option.some.inj e
    have e3 : w = best v vs := toD_inj _ _ (lay_mem ok'.1.1.1 (List.mem_of_getElem? ew)) (lay_mem ok'.1.1.1 (hm vs v)) (by rw [hb, e2, toDs_map])
    subst e3
    exact q x H (fun _ _ e => e) rw_
  cases v <;> try exact bad_ans
  case tup vs =>
    cases vs with
    | nil => exact bad_ans
    | cons v vs =>
      have hv : Rp K H A (.tup (v :: vs)) x := hv
      rw [rp_tup] at hv
      obtain ⟨a, xs, rfl, _, ha, l, _⟩ := hv
      show Ans _ _ _ _ (if bestOk v vs then _ else _)
      split
      · rename_i h; exact key v vs a xs l (.inr (SqT.of ha)) h
      · exact bad_ans
  case lst vs =>
    cases vs with
    | nil => exact bad_ans
    | cons v vs =>
      obtain ⟨a, xs, rfl, ha, l, _⟩ := hv
      show Ans _ _ _ _ (if bestOk v vs then _ else _)
      split
      · rename_i h; exact key v vs a xs l (.inl (SqL.of ha)) h
      · exact bad_ans
theorem s_min : OpSLR K (rBest K minD) (oBest minV) := s_best minV_toD minV_mem
theorem s_max : OpSLR K (rBest K maxD) (oBest maxV) := s_best maxV_toD maxV_mem
end
end PV

namespace PV
open PySem PySem.Spec PyProof.Rows L2
open PySem.W (dataLt alike alikeAll lt_data gt_data le_data ge_data AlikeAll minD maxD min_list_data max_list_data min_tuple_data max_tuple_data sorted_data AllAlike Sortable EachIs dataLe readsAll_each)

/-! ### sorted -/
theorem vals_of_each : ∀ {out : List Value} {bs : List (V × PyData)}, EachIs (fun u (b : V × PyData) => RelV b.1 u) out bs → Vals (bs.map (·.1)) out
  | _, _, .nil => .nil
  | _, _, .cons r t => .cons r (vals_of_each t)
theorem each_of_vals : ∀ {us : List Value} {xs : List V} {ds : List PyData}, Vals xs us → xs.length = ds.length → EachIs (fun u (b : V × PyData) => RelV b.1 u) us (xs.zip ds)
  | _, _, [], .nil, _ => .nil
  | _, _, _ :: _, .nil, h => by simp at h
  | _, _, d :: ds, .cons r t, h => .cons r (each_of_vals t (by simpa using h))
  | _, _, [], .cons r t, h => by simp at h
def rSortV (K : PySem.W.Frag) : List V → Hp → VK → Prop := fun vs H Q => ∃ (a : Addr) (xs : List V) (ds : List PyData), vs = [.ref a] ∧ (SqL K H a xs ∨ SqT K H a xs) ∧ DpAll K H xs ds ∧ PyData.canLayAll0 ds = true ∧ AllAlike ds ∧ Sortable ds ∧ PyData.depthAll ds ≤ 60 ∧
  ∀ p, H p = none → Q (.ref p) (upd H p (.lst (((xs.zip ds).mergeSort (dataLe false Prod.snd)).map (·.1))))
theorem dpAll_length {K : PySem.W.Frag} {H : Hp} : ∀ {xs : List V} {ds : List PyData}, DpAll K H xs ds → xs.length = ds.length
  | _, _, .nil => rfl
  | _, _, .cons _ t => by simp [dpAll_length t]
theorem depth_mem : ∀ {ds : List PyData} {d : PyData}, d ∈ ds → d.depth ≤ PyData.depthAll ds
  | e :: ds, d, h => by
    rw [PyData.depthAll]
    rcases List.mem_cons.mp h with rfl | h
    · omega
    · have := depth_mem h; omega
/-- sorted(v), v collected in any way -/
theorem sorted_from {prog : Program} {w : World} {A : Around} {E : Value → Shared → Prop} {s : Shared} {v : Value} {β : Type} {vs : List Value} {bs : List β} {enc : β → PyData} {R : Value → β → Prop} {Q : Value → Shared → Prop}
    (hcol : ∀ (E' : Value → Shared → Prop) (Q' : List Value → Shared → Prop), (∀ h' tk, (∀ b o, s.heap.get? b = some o → h'.get? b = some o) → Q' vs { s with heap := h', toks := tk }) → wpAny (model prog w) A.in1 (collect v) Q' E' s)
    (e : EachIs R vs bs) (er : EachIs (fun v b => ∃ as, Reads s.heap v (enc b) as) vs bs) (hal : AllAlike (bs.map enc)) (hk : Sortable (bs.map enc)) (hL : bs.length ≤ sizeLine) (hu : ∀ b, b ∈ bs → A.units + 2 + (enc b).depth < cLine)
    (h : ∀ out h2 tk p n, out.length = bs.length → EachIs R out (bs.mergeSort (dataLe false enc)) → (∀ b o, s.heap.get? b = some o → h2.get? b = some o) → s.heap.get? p = none → h2.get? p = some (seqObj "list" (List.toArray out) n) → Q (.ref p) { s with heap := h2, toks := tk }) :
    wpAny (model prog w) A (call (.builtin "sorted") [v]) Q E s := by
  have hlen : vs.length ≤ sizeLine := by rw [e.length]; exact hL
  refine call_function_entry_kw kind_sorted plain_sorted entry_sorted (args_sorted1 _) ?_
  unfold Builtin.«sorted»
  refine wpAny_bind (m := checkCount "sorted" 1 1 _) (wpAny_pure (wpAny_bind (hcol _ _ fun h1 tk k1 => wpAny_bind (wpAny_newList ?_ hlen))))
  have hat : (h1.push (seqObj "list" vs.toArray 0)).get? h1.objs.size = some (seqObj "list" vs.toArray 0) := Heap.get?_push_size _ rfl
  have old2 : ∀ b o, s.heap.get? b = some o → (h1.push (seqObj "list" vs.toArray 0)).get? b = some o := fun b o q => Heap.get?_push_of_some _ (k1 b o q)
  have old3 : ∀ b o, s.heap.get? b = some o → (PySem.W.sortingHeap (h1.push (seqObj "list" vs.toArray 0)) h1.objs.size vs).get? b = some o := fun b o q =>
    PySem.W.sortingHeap_old (Nat.ne_of_lt (Heap.lt_size (k1 b o q))) (old2 b o q)
  have er' : EachIs (fun v b => ∃ as, Reads (PySem.W.sortingHeap (h1.push (seqObj "list" vs.toArray 0)) h1.objs.size vs) v (enc b) as) vs bs := er.mono fun _ _ ⟨as, r⟩ => ⟨as, PyProof.Rows.Reads.keeps old3 r⟩
  refine wpAny_bind (wpAny_holding (wpAny_call_entry_kw slot_list_sort ⟨_, hat, rfl⟩ entry_list_sort ?body (args_list_sort _)))
  case body =>
    refine PySem.W.list_sort_vals (s := { s with heap := h1.push (seqObj "list" vs.toArray 0), toks := tk }) hat
      (PySem.W.SortsAt.data (s := { s with heap := PySem.W.sortingHeap (h1.push (seqObj "list" vs.toArray 0)) h1.objs.size vs, toks := tk }) (PySem.W.each_map (R := fun v d => ∃ as, Reads (PySem.W.sortingHeap (h1.push (seqObj "list" vs.toArray 0)) h1.objs.size vs) v d as) enc er') hal hk (PySem.W.bound_map hu)) hlen ?_
    refine ⟨_, rfl, wpAny_pure ⟨_, rfl, ?_⟩⟩
    obtain ⟨n, en⟩ := sortedHeap_at (out := (PySem.W.sortVals (PySem.W.dataKind (PySem.W.sortingHeap (h1.push (seqObj "list" vs.toArray 0)) h1.objs.size vs) (bs.map enc)) false vs vs).toArray) hat
    refine h _ _ tk h1.objs.size n (by rw [PySem.W.sortVals_length false rfl]; exact e.length) (PySem.W.sortVals_data false e er' hal) (fun b o q => ?_) ?_ en
    rotate_left
    · cases e : s.heap.get? h1.objs.size with
      | none => rfl
      | some o => exact absurd (Heap.lt_size (k1 _ _ e)) (Nat.lt_irrefl _)
    have lb : b < h1.objs.size := Heap.lt_size (k1 b o q)
    rw [sortedHeap_old (Nat.ne_of_lt lb) (by rw [Heap.size_push]; exact Nat.lt_succ_of_lt lb)]
    exact old2 b o q
theorem call_sortV {X : Cx} (hu : X.A.units + 64 < cLine) : CallR X (.builtin "sorted") (rSortV X.K) := by
  intro pins s σ H vs us Q I r h
  obtain ⟨a, xs, ds, rfl, hs, dp, lay, al, so, dep, q⟩ := h
  rw [Vals.ref1 r]
  have hl := dpAll_length dp
  have em : (xs.zip ds).map Prod.snd = ds := by rw [List.map_snd_zip]; omega
  have hlz : (xs.zip ds).length = xs.length := by rw [List.length_zip]; omega
  rcases hs with hs | hs
  · obtain ⟨its, rv, p, hz⟩ := I.list hs
    obtain ⟨as, ra⟩ := Dp.readsAll I ds _ its dp rv
    refine sorted_data (R := fun u (b : V × PyData) => RelV b.1 u) (bs := xs.zip ds) (enc := Prod.snd) p.isList (each_of_vals rv hl) (readsAll_each Prod.snd (by rw [em]; exact ra)) (by rw [em]; exact al) (by rw [em]; exact so) (by rw [hlz]; exact hz) (fun b hb => ?_) fun out ho eo => ?_
    · have : b.2 ∈ ds := by rw [← em]; exact List.mem_map_of_mem hb
      have := depth_mem this
      omega
    · have rv' := vals_of_each eo
      have hlen : (((xs.zip ds).mergeSort (dataLe false Prod.snd)).map (·.1)).length ≤ sizeLine := by rw [List.length_map, (List.mergeSort_perm _ _).length_eq, hlz]; exact hz
      obtain ⟨ep, he⟩ := PyProof.Rows.sortedAll_at s.heap its out.toArray
      refine ⟨.ref _, upd H (s.heap.objs.size + 1) (.lst (((xs.zip ds).mergeSort (dataLe false Prod.snd)).map (·.1))), I.laid (t' := s.toks) (fun _ _ => PyProof.Rows.sortedAll_old) (Nat.le_succ _) ⟨hlen, out, ep, rv', he⟩, rfl, q _ (I.hok.fresh (Nat.le_succ _))⟩
  · obtain ⟨its, rv, p, hz⟩ := I.tuple hs
    obtain ⟨as, ra⟩ := Dp.readsAll I ds _ its dp rv
    have hlen0 : its.length ≤ sizeLine := by rw [← rv.length]; exact hz
    refine sorted_from (R := fun u (b : V × PyData) => RelV b.1 u) (bs := xs.zip ds) (enc := Prod.snd) (fun E' Q' hq => by
      obtain ⟨o, ho, hc, n, hd⟩ := id p
      exact wpAny_collect_seq a (.inr rfl) ho hc hd (fun h' k => hq h' s.toks k) (by rw [List.size_toArray]; exact hlen0)) (each_of_vals rv hl) (readsAll_each Prod.snd (by rw [em]; exact ra)) (by rw [em]; exact al) (by rw [em]; exact so) (by rw [hlz]; exact hz) (fun b hb => ?_) fun out h2 tk P n ho eo k fr hP => ?_
    · have : b.2 ∈ ds := by rw [← em]; exact List.mem_map_of_mem hb
      have := depth_mem this
      omega
    · have rv' := vals_of_each eo
      have hlen : (((xs.zip ds).mergeSort (dataLe false Prod.snd)).map (·.1)).length ≤ sizeLine := by rw [List.length_map, (List.mergeSort_perm _ _).length_eq, hlz]; exact hz
      have hn := I.hok.gone fr
      exact ⟨.ref _, _, I.laidN (t' := tk) k fr hn (o := .lst (((xs.zip ds).mergeSort (dataLe false Prod.snd)).map (·.1))) ⟨hlen, out, n, rv', hP⟩, rfl, q _ hn⟩
def leV (v w : Val) : Bool := !ltV w v
def sortV (vs : List Val) : List Val := vs.mergeSort leV
def sortOk (vs : List Val) : Bool := dataOk vs && alikesV vs && ((vs.all fun v => match v with | .tup (_ :: _) => true | _ => false) || (vs.all fun v => match v with | .tup _ => false | .non => false | _ => true))
def oSorted : Val → Res (Val × Bool)
  | .lst vs => if sortOk vs then .ok (.lst (sortV vs), true) else .bad
  | .tup vs => if sortOk vs then .ok (.lst (sortV vs), true) else .bad
  | _ => .bad
theorem RpL.of_pairs {K : PySem.W.Frag} {H : Hp} {A : AP} : ∀ {T : List (V × Val)}, (∀ t ∈ T, Rp K H A t.2 t.1) → RpL K H A (T.map (·.2)) (T.map (·.1))
  | [], _ => RpL.nil
  | t :: T, h => rpl_cc.mpr ⟨h t List.mem_cons_self, RpL.of_pairs fun u hu => h u (List.mem_cons_of_mem _ hu)⟩
theorem RpL.pairs {K : PySem.W.Frag} {H : Hp} {A : AP} : ∀ {vs : List Val} {xs : List V}, RpL K H A vs xs → ∃ T : List (V × Val), T.map (·.2) = vs ∧ T.map (·.1) = xs ∧ ∀ t ∈ T, Rp K H A t.2 t.1
  | [], xs, h => by rw [rpl_nil] at h; subst h; exact ⟨[], rfl, rfl, fun t h => by cases h⟩
  | v :: vs, xs, h => by
    rw [rpl_cons] at h
    obtain ⟨x, r, rfl, h1, h2⟩ := h
    obtain ⟨T, e1, e2, h3⟩ := RpL.pairs h2
    refine ⟨(x, v) :: T, by simp [e1], by simp [e2], fun t ht => ?_⟩
    rcases List.mem_cons.mp ht with rfl | ht
    · exact h1
    · exact h3 t ht
theorem s_sorted1 {K : PySem.W.Frag} {H : Hp} {A : AP} {vs : List Val} {a : Addr} {xs : List V} (hs : SqL K H a xs ∨ SqT K H a xs) (l : RpL K H A vs xs) (hz : vs.length ≤ sizeLine) : Ans K H A (rSortV K [.ref a]) (if sortOk vs then .ok (.lst (sortV vs), true) else .bad) := by
  show Ans _ _ _ _ (if sortOk vs then _ else _)
  split
  · rename_i ok
    unfold sortOk dataOk alikesV at ok
    simp only [Bool.and_eq_true, decide_eq_true_eq, List.all_eq_true] at ok
    obtain ⟨⟨⟨lay, dep⟩, alk⟩, so⟩ := ok
    intro Q q
    refine ⟨a, xs, toDs vs, rfl, hs, RpL.dp vs xs lay l, lay, ?_, ?_, dep, fun p hp => ?_⟩
    · rw [toDs_map]
      intro d hd d' hd'
      obtain ⟨b, hb, rfl⟩ := List.mem_map.mp hd
      obtain ⟨b', hb', rfl⟩ := List.mem_map.mp hd'
      exact alk b hb b' hb'
    · rw [toDs_map]
      rw [Bool.or_eq_true, List.all_eq_true, List.all_eq_true] at so
      rcases so with so | so
      · left
        intro d hd
        obtain ⟨b, hb, rfl⟩ := List.mem_map.mp hd
        have := so b hb
        cases b <;> try (simp at this; done)
        rename_i ws
        cases ws with
        | nil => simp at this
        | cons w ws => exact ⟨toD w, toDs ws, by rw [toD, toDs]⟩
      · right
        intro d hd
        obtain ⟨b, hb, rfl⟩ := List.mem_map.mp hd
        have := so b hb
        cases b <;> first
          | (simp at this; done)
          | simp [toD]
    · obtain ⟨T, e1, e2, h3⟩ := l.pairs
      have ez : xs.zip (toDs vs) = T.map fun t => (t.1, toD t.2) := by
        rw [toDs_map, ← e1, ← e2, List.map_map, List.zip_map']
        rfl
      have em : (xs.zip (toDs vs)).mergeSort (dataLe false Prod.snd) = (T.mergeSort fun s t => leV s.2 t.2).map fun t => (t.1, toD t.2) := by
        rw [ez, List.map_mergeSort]
        intro s _ t _
        rfl
      have ev : sortV vs = (T.mergeSort fun s t => leV s.2 t.2).map (·.2) := by
        unfold sortV
        rw [← e1, List.map_mergeSort]
        intro s _ t _
        rfl
      rw [em, List.map_map]
      refine q _ _ (same_upd hp) ?_
      rw [ev]
      refine new_lst hp ?_ (by rw [← ev]; unfold sortV; rw [(List.mergeSort_perm _ _).length_eq]; exact hz)
      exact RpL.of_pairs fun t ht => h3 t ((List.mergeSort_perm _ _).mem_iff.mp ht)
  · exact bad_ans

theorem s_sorted {K : PySem.W.Frag} : OpSLR K (rSortV K) oSorted := by
  intro H A v x al hv
  cases v <;> try exact bad_ans
  case lst vs =>
    obtain ⟨a, xs, rfl, ha, l, hz⟩ := hv
    exact s_sorted1 (.inl (SqL.of ha)) l hz
  case tup vs =>
    have hv : Rp K H A (.tup vs) x := hv
    rw [rp_tup] at hv
    obtain ⟨a, xs, rfl, _, ha, l, hz⟩ := hv
    exact s_sorted1 (.inr (SqT.of ha)) l hz

/-! ### all, any; list, tuple; int, abs; max, min of two -/
def boolsV : List Val → Option (List Bool)
  | [] => some []
  | .bl i :: vs => (boolsV vs).map (i :: ·)
  | _ => none
theorem boolsV_map (is : List Bool) : boolsV (is.map .bl) = some is := by
  induction is with
  | nil => rfl
  | cons i is ih => simp [boolsV, ih]
theorem boolsV_rp {K : PySem.W.Frag} {H : Hp} {A : AP} : ∀ {vs : List Val} {xs : List V} {is : List Bool}, boolsV vs = some is → RpL K H A vs xs → xs = is.map V.bl
  | [], xs, is, e, l => by rw [rpl_nil] at l; subst l; cases e; rfl
  | v :: vs, xs, is, e, l => by
    rw [rpl_cons] at l
    obtain ⟨x, r, rfl, h1, h2⟩ := l
    cases v <;> try (cases e; done)
    rename_i i
    change (boolsV vs).map (i :: ·) = some is at e
    cases q : boolsV vs with
    | none => rw [q] at e; cases e
    | some js =>
      rw [q] at e; cases e
      rw [rp_bl] at h1; subst h1
      rw [boolsV_rp q h2]; rfl
def oAll : Val → Res (Val × Bool)
  | .lst vs => match boolsV vs with
    | some is => .ok (.bl (is.all id), false)
    | none => .bad
  | _ => .bad
def oAny : Val → Res (Val × Bool)
  | .lst vs => match boolsV vs with
    | some is => .ok (.bl (is.any id), false)
    | none => .bad
  | _ => .bad
section
variable {K : PySem.W.Frag}
theorem s_all : OpSLR K (rAll K) oAll := by
  intro H A v x al hv
  cases v <;> try exact bad_ans
  case lst vs =>
    obtain ⟨a, xs, rfl, ha, l, _⟩ := hv
    show Ans _ _ _ _ (match boolsV vs with | some is => _ | none => _)
    cases e : boolsV vs with
    | none => exact bad_ans
    | some is => exact ans_pure _ (fun _ => rp_bl.mpr rfl) fun Q q => ⟨a, is, rfl, by rw [← boolsV_rp e l]; exact SqL.of ha, q⟩
theorem s_any : OpSLR K (rAny K) oAny := by
  intro H A v x al hv
  cases v <;> try exact bad_ans
  case lst vs =>
    obtain ⟨a, xs, rfl, ha, l, _⟩ := hv
    show Ans _ _ _ _ (match boolsV vs with | some is => _ | none => _)
    cases e : boolsV vs with
    | none => exact bad_ans
    | some is => exact ans_pure _ (fun _ => rp_bl.mpr rfl) fun Q q => ⟨a, is, rfl, by rw [← boolsV_rp e l]; exact SqL.of ha, q⟩
def oList : Val → Res (Val × Bool)
  | .lst vs => .ok (.lst vs, true)
  | .tup vs => .ok (.lst vs, true)
  | .rng i j => if rgOk i && rgOk j && decide ((j - i).toNat ≤ 1000000) then .ok (.lst (upto i (j - i).toNat), true) else .bad
  | .str z => if z.length ≤ sizeLine then .ok (.lst (z.cps.toList.map fun c => Val.str ⟨#[c]⟩), true) else .bad
  | _ => .bad
theorem vals_items {P : Nat → Value → Prop} {acc : Array Value} {n : Nat} {xs : List V} (h : ItemsOf P acc n) (hl : xs.length = n) (hp : ∀ i x v, xs[i]? = some x → P i v → RelV x v) : Vals xs acc.toList := by
  have go : ∀ (xs : List V) (us : List Value), xs.length = us.length → (∀ (i : Nat) x v, xs[i]? = some x → us[i]? = some v → RelV x v) → Vals xs us := fun xs => by
    induction xs with
    | nil => intro us e _; cases us with
      | nil => exact .nil
      | cons _ _ => simp at e
    | cons x xs ih => intro us e k; cases us with
      | nil => simp at e
      | cons u us => exact .cons (k 0 x u rfl rfl) (ih us (by simpa using e) fun i y v e1 e2 => k (i + 1) y v (by simpa using e1) (by simpa using e2))
  exact go xs acc.toList (hl.trans (h.1.symm.trans (Array.length_toList (xs := acc)).symm)) fun i x v e1 e2 => hp i x v e1 (h.2 i v (by rw [← Array.getElem?_toList]; exact e2))
def uptoV (lo : Int) (n : Nat) : List V := (List.range n).map fun (i : Nat) => V.int (lo + (i : Int))
theorem upto_rp {H : Hp} {A : AP} (lo : Int) (n : Nat) : RpL K H A (upto lo n) (uptoV lo n) := by
  unfold upto uptoV
  induction List.range n with
  | nil => exact RpL.nil
  | cons i l ih => exact rpl_cc.mpr ⟨rp_int.mpr rfl, ih⟩
def rListV (K : PySem.W.Frag) : List V → Hp → VK → Prop := fun xs H Q => (∃ p ys, xs = [.ref p] ∧ (SqL K H p ys ∨ SqT K H p ys) ∧ ∀ l, H l = none → Q (.ref l) (upd H l (.lst ys))) ∨
  (∃ (p : Addr) (i j : Int), xs = [.ref p] ∧ H p = some (.rng i j) ∧ (-(2 ^ 62) ≤ i ∧ i < 2 ^ 62) ∧ (-(2 ^ 62) ≤ j ∧ j < 2 ^ 62) ∧ (j - i).toNat ≤ 1000000 ∧ ∀ l, H l = none → Q (.ref l) (upd H l (.lst (uptoV i (j - i).toNat)))) ∨
  ∃ z : Str, xs = [.str z] ∧ z.length ≤ sizeLine ∧ ∀ l, H l = none → Q (.ref l) (upd H l (.lst (z.cps.toList.map fun c => V.str ⟨#[c]⟩)))
theorem call_listV {X : Cx} (hc : X.calm = true) : CallR X (.type "list") (rListV X.K) := by
  intro pins s σ H xs us Q I r h
  rcases h with h | ⟨p, i, j, rfl, hr, hi, hj, hn, q⟩ | ⟨z, rfl, hz, q⟩
  · exact L2.call_list_of pins s σ H xs us Q I r h
  · rw [Vals.ref1 r]
    obtain ⟨t, u, v, e⟩ := I.hok p _ hr
    have e2 : Builtin.Range.rangeSize i j 1 = (j - i).toNat := by rw [rangeSize_one]; split <;> omega
    refine call_list_range (n := (j - i).toNat) (I.ok.hd hc) (show IsRange s.heap p i j 1 t u v from e) (small_one hi.1 hi.2 hj.1 hj.2) e2 (by omega) fun h' tk acc c kp hS it => ?_
    have rv : Vals (uptoV i (j - i).toNat) acc.toList := vals_items it (by simp [uptoV]) fun k x w ex ew => by
      obtain ⟨t, rfl⟩ := ew
      unfold uptoV at ex
      rw [List.getElem?_map] at ex
      cases q : (List.range (j - i).toNat)[k]? with
      | none => rw [q] at ex; cases ex
      | some m =>
        rw [q] at ex; cases ex
        have := List.getElem?_eq_some_iff.mp q
        obtain ⟨hk, em⟩ := this
        rw [List.getElem_range] at em
        subst em
        exact ⟨t, by rw [Int.mul_one]⟩
    exact ⟨.ref _, _, I.laid (t' := tk) (o := .lst (uptoV i (j - i).toNat)) kp (Nat.le_refl _) ⟨by simp [uptoV]; rw [sizeLine_eq]; omega, acc.toList, c, rv, by rw [Array.toArray_toList]; exact hS⟩, rfl, q _ (I.hok.fresh (Nat.le_refl _))⟩
  · obtain ⟨u, rfl, ru⟩ := L2.vals1 r
    obtain ⟨t, rfl⟩ := ru
    refine call_list_str (I.ok.hd hc) z t (fun h' tk acc c kp hS it => ?_) hz
    have rv : Vals (z.cps.toList.map fun c => V.str ⟨#[c]⟩) acc.toList := vals_items it (by simp) fun k x w ex ew => by
      obtain ⟨c', t', ec, rfl⟩ := ew
      rw [List.getElem?_map] at ex
      have : z.cps.toList[k]? = some c' := by simpa using ec
      rw [this] at ex; cases ex
      exact ⟨t', rfl⟩
    exact ⟨.ref _, _, I.laid (t' := tk) (o := .lst _) kp (Nat.le_refl _) ⟨by rw [List.length_map, Array.length_toList]; exact hz, acc.toList, c, rv, by rw [Array.toArray_toList]; exact hS⟩, rfl, q _ (I.hok.fresh (Nat.le_refl _))⟩
theorem s_list : OpSLR K (rListV K) oList := by
  intro H A v x al hv
  cases v <;> try exact bad_ans
  case tup vs =>
    have hv : Rp K H A (.tup vs) x := hv
    rw [rp_tup] at hv
    obtain ⟨a, xs, rfl, _, ha, l, z⟩ := hv
    exact fun Q q => .inl ⟨a, xs, rfl, .inr (SqT.of ha), fun p hp => q _ _ (same_upd hp) (new_lst hp l z)⟩
  case lst vs =>
    obtain ⟨a, xs, rfl, ha, l, z⟩ := hv
    exact fun Q q => .inl ⟨a, xs, rfl, .inl (SqL.of ha), fun p hp => q _ _ (same_upd hp) (new_lst hp l z)⟩
  case rng i j =>
    have hv : Rp K H A (.rng i j) x := hv
    rw [rp_rng] at hv
    obtain ⟨a, rfl, _, ha⟩ := hv
    show Ans _ _ _ _ (if rgOk i && rgOk j && decide ((j - i).toNat ≤ 1000000) then _ else _)
    split
    · rename_i h
      rw [Bool.and_eq_true, Bool.and_eq_true] at h
      have hn := of_decide_eq_true h.2
      exact fun Q q => .inr (.inl ⟨a, i, j, rfl, ha, rgOk_iff h.1.1, rgOk_iff h.1.2, hn, fun p hp => q _ _ (same_upd hp) (new_lst hp (upto_rp i _) (by rw [upto_len, sizeLine_eq]; omega))⟩)
    · exact bad_ans
  case str z =>
    have hv : Rp K H A (.str z) x := hv
    rw [rp_str] at hv; subst hv
    show Ans _ _ _ _ (if z.length ≤ sizeLine then _ else _)
    split
    · rename_i hz
      have lr : RpL K H A (z.cps.toList.map fun c => Val.str ⟨#[c]⟩) (z.cps.toList.map fun c => V.str ⟨#[c]⟩) := by
        induction z.cps.toList with
        | nil => exact RpL.nil
        | cons c l ih => exact rpl_cc.mpr ⟨rp_str.mpr rfl, ih⟩
      exact fun Q q => .inr (.inr ⟨z, rfl, hz, fun p hp => q _ _ (same_upd hp) (new_lst hp lr (by rw [List.length_map, Array.length_toList]; exact hz))⟩)
    · exact bad_ans
def oTuple : Val → Res (Val × Bool)
  | .lst vs => .ok (.tup vs, false)
  | .tup vs => .ok (.tup vs, false)
  | _ => .bad
def rTupleV (K : PySem.W.Frag) : List V → Hp → VK → Prop := fun xs H Q => ∃ p ys, xs = [.ref p] ∧ ((SqL K H p ys ∧ ∀ l, H l = none → Q (.ref l) (upd H l (.tup ys))) ∨ (SqT K H p ys ∧ Q (.ref p) H))
theorem s_tuple : OpSLR K (rTupleV K) oTuple := by
  intro H A v x al hv
  cases v <;> try exact bad_ans
  case tup vs =>
    have hv : Rp K H A (.tup vs) x := hv
    have hv' := hv
    rw [rp_tup] at hv
    obtain ⟨a, xs, rfl, _, ha, l, z⟩ := hv
    exact ans_read hv' fun Q q => ⟨a, xs, rfl, .inr ⟨SqT.of ha, q⟩⟩
  case lst vs =>
    obtain ⟨a, xs, rfl, ha, l, z⟩ := hv
    exact fun Q q => ⟨a, xs, rfl, .inl ⟨SqL.of ha, fun p hp => q _ _ (same_upd hp) (new_tup al hp l z)⟩⟩
def oInt : Val → Res (Val × Bool)
  | .int i => .ok (.int i, false)
  | .bl k => .ok (.int (if k then 1 else 0), false)
  | _ => .bad
def rIntV : List V → Hp → VK → Prop := fun xs H Q => (∃ i, xs = [.int i] ∧ Q (.int i) H) ∨ ∃ k, xs = [.bl k] ∧ Q (.int (if k then 1 else 0)) H
theorem s_int : OpSLR K rIntV oInt := by
  intro H A v x al hv
  cases v <;> try exact bad_ans
  case int i => have hv : Rp K H A (.int i) x := hv; rw [rp_int] at hv; subst hv; exact ans_pure _ (fun _ => rp_int.mpr rfl) fun Q q => .inl ⟨i, rfl, q⟩
  case bl i => have hv : Rp K H A (.bl i) x := hv; rw [rp_bl] at hv; subst hv; exact ans_pure _ (fun _ => rp_int.mpr rfl) fun Q q => .inr ⟨i, rfl, q⟩
def oAbs : Val → Res (Val × Bool)
  | .int i => .ok (.int (if i < 0 then -i else i), false)
  | _ => .bad
def rAbsV : List V → Hp → VK → Prop := fun xs H Q => ∃ i, xs = [.int i] ∧ Q (.int (if i < 0 then -i else i)) H
theorem s_abs : OpSLR K rAbsV oAbs := by
  intro H A v x al hv
  cases v <;> try exact bad_ans
  case int i => have hv : Rp K H A (.int i) x := hv; rw [rp_int] at hv; subst hv; exact ans_pure _ (fun _ => rp_int.mpr rfl) fun Q q => ⟨i, rfl, q⟩
/-- two plain arguments -/
theorem opl2 {r : List V → Hp → VK → Prop} {f : Val → Val → Res (Val × Bool)} (h : ∀ H A v w x y, (∀ a, A a → H a ≠ none) → Rp K H A v x → Rp K H A w y → Ans K H A (r [x, y]) (f v w)) : OpSL K r (on2 f) := fun H A vs xs al l => by
  match vs with
  | [] => exact bad_ans
  | [v] => exact bad_ans
  | [v, w] =>
    rw [rpl_cons] at l; obtain ⟨x, r, rfl, h1, l⟩ := l
    rw [rpl_cons] at l; obtain ⟨y, r, rfl, h2, l⟩ := l
    rw [rpl_nil] at l; subst l
    exact h H A v w x y al h1 h2
  | _ :: _ :: _ :: _ => exact bad_ans
def oMax2 : Val → Val → Res (Val × Bool)
  | .int i, .int j => .ok (.int (if j > i then j else i), false)
  | _, _ => .bad
def oMin2 : Val → Val → Res (Val × Bool)
  | .int i, .int j => .ok (.int (if j < i then j else i), false)
  | _, _ => .bad
def rMax2 : List V → Hp → VK → Prop := fun xs H Q => ∃ i j, xs = [.int i, .int j] ∧ Q (.int (if j > i then j else i)) H
def rMin2 : List V → Hp → VK → Prop := fun xs H Q => ∃ i j, xs = [.int i, .int j] ∧ Q (.int (if j < i then j else i)) H
theorem s_max2 : OpSL K rMax2 (on2 oMax2) := opl2 fun H A v w x y al h1 h2 => by
  cases v <;> cases w <;> try exact bad_ans
  case int.int i j => rw [rp_int] at h1 h2; subst h1 h2; exact ans_pure _ (fun _ => rp_int.mpr rfl) fun Q q => ⟨i, j, rfl, q⟩
theorem s_min2 : OpSL K rMin2 (on2 oMin2) := opl2 fun H A v w x y al h1 h2 => by
  cases v <;> cases w <;> try exact bad_ans
  case int.int i j => rw [rp_int] at h1 h2; subst h1 h2; exact ans_pure _ (fun _ => rp_int.mpr rfl) fun Q q => ⟨i, j, rfl, q⟩

/-! isinstance -/
inductive Tg where | non | bl | int | str | tup | lst | dct
def tagV : Val → Option Tg
  | .non => some .non
  | .bl _ => some .bl
  | .int _ => some .int
  | .str _ => some .str
  | .tup _ => some .tup
  | .lst _ => some .lst
  | .scr _ => some .lst
  | .dK _ => some .dct
  | .dT _ => some .dct
  | _ => none
def Tg.name : Tg → String
  | .non => "NoneType" | .bl => "bool" | .int => "int" | .str => "str" | .tup => "tuple" | .lst => "list" | .dct => "dict"
def tgIs : Tg → String → Option Bool
  | t, "int" => some (match t with | .int => true | .bl => true | _ => false)
  | t, "bool" => some (match t with | .bl => true | _ => false)
  | t, "str" => some (match t with | .str => true | _ => false)
  | t, "tuple" => some (match t with | .tup => true | _ => false)
  | t, "list" => some (match t with | .lst => true | _ => false)
  | t, "dict" => some (match t with | .dct => true | _ => false)
  | _, _ => none
theorem tgIs_kit {t : Tg} {n : String} {b : Bool} (h : tgIs t n = some b) : kitB t.name n = some b := by
  unfold tgIs at h
  split at h <;> first
    | (cases h; done)
    | (cases t <;> cases h <;> decide +kernel)
theorem tag_ty {H : Hp} {A : AP} {v : Val} {x : V} {t : Tg} (h : tagV v = some t) (r : RdR K H A v x) : TyX K H x (.type t.name) := by
  cases v <;> simp only [tagV, reduceCtorEq, Option.some.injEq] at h <;> subst h
  case non => have r : Rp K H A .non x := r; rw [rp_non] at r; subst r; exact .base .non
  case bl b => have r : Rp K H A (.bl b) x := r; rw [rp_bl] at r; subst r; exact .base (.bl b)
  case int b => have r : Rp K H A (.int b) x := r; rw [rp_int] at r; subst r; exact .base (.int b)
  case str b => have r : Rp K H A (.str b) x := r; rw [rp_str] at r; subst r; exact .base (.str b)
  case scr is => have r : Rp K H A (.scr is) x := r; rw [rp_scr] at r; obtain ⟨a, rfl, ha⟩ := r; exact ha.elim (fun ⟨_, o, h⟩ => .base (.frz h)) fun ⟨o, its, n, h, c, _⟩ => .kList h c
  case tup vs => have r : Rp K H A (.tup vs) x := r; rw [rp_tup] at r; obtain ⟨a, xs, rfl, _, ha, _⟩ := r; exact .base (.tup ha)
  case lst vs => obtain ⟨a, xs, rfl, ha, _⟩ := r; exact .base (.lst ha)
  case dK vs =>
    obtain ⟨a, xs, rfl, ha, _⟩ := r
    rcases ha with ha | ⟨o, ha⟩
    · exact .base (.dK ha)
    · exact .fDict ha
  case dT vs =>
    obtain ⟨a, xs, rfl, ha, _⟩ := r
    exact .base (.dT ha)
end
end PV

namespace PV
open PySem PySem.Spec PyProof.Rows L2

/-! ### isinstance -/
def oIsi1 (v : Val) (n : String) : Option Bool := (tagV v).bind fun t => tgIs t n
def oIsi2 (v : Val) : Val → Val → Res (Val × Bool)
  | .ty n, .ty m => match oIsi1 v n, oIsi1 v m with
    | some b, some c => .ok (.bl (b || c), false)
    | _, _ => .bad
  | _, _ => .bad
def oIsi (v w : Val) : Res (Val × Bool) := match w with
  | .ty n => (match oIsi1 v n with
    | some b => .ok (.bl b, false)
    | none => .bad)
  | .tup [c1, c2] => oIsi2 v c1 c2
  | _ => .bad
def rIsiV (K : PySem.W.Frag) : List V → Hp → VK → Prop := fun xs H Q => rIsi K xs H Q ∨ rIsiT K xs H Q
theorem call_isiV {X : Cx} : CallR X (.builtin "isinstance") (rIsiV X.K) := call_isi.or call_isiT
theorem oIsi1_ok {v : Val} {n : String} {b : Bool} (h : oIsi1 v n = some b) : ∃ t, tagV v = some t ∧ tgIs t n = some b := by
  unfold oIsi1 at h
  cases e : tagV v with
  | none => rw [e] at h; cases h
  | some t => rw [e] at h; exact ⟨t, rfl, h⟩
theorem s_isi {K : PySem.W.Frag} : OpSL K (rIsiV K) (on2 oIsi) := opl2 fun H A v w x y al h1 h2 => by
  cases w <;> try exact bad_ans
  case ty n =>
    rw [rp_ty] at h2; subst h2
    show Ans _ _ _ _ (match oIsi1 v n with | some b => _ | none => _)
    cases e : oIsi1 v n with
    | none => exact bad_ans
    | some b =>
      obtain ⟨t, e1, e2⟩ := oIsi1_ok e
      exact ans_pure _ (fun _ => rp_bl.mpr rfl) fun Q q => .inl ⟨x, .ty n, _, _, b, rfl, .ty n, tag_ty e1 h1.rdr, kit_ty (tgIs_kit e2), q⟩
  case tup vs =>
    match vs, h2 with
    | [], _ => exact bad_ans
    | [_], _ => exact bad_ans
    | _ :: _ :: _ :: _, _ => exact bad_ans
    | [c1, c2], h2 =>
      show Ans _ _ _ _ (oIsi2 v c1 c2)
      rw [rp_tup] at h2
      obtain ⟨a, xs, rfl, _, ha, l, hz0⟩ := h2
      clear hz0
      rw [rpl_cons] at l; obtain ⟨y1, r1, rfl, l1, l⟩ := l
      rw [rpl_cons] at l; obtain ⟨y2, r2, rfl, l2, l⟩ := l
      rw [rpl_nil] at l; subst l
      cases c1 <;> cases c2 <;> try exact bad_ans
      case ty.ty n m =>
        rw [rp_ty] at l1 l2; subst l1 l2
        show Ans _ _ _ _ (match oIsi1 v n, oIsi1 v m with | some b, some c => _ | _, _ => _)
        cases e2 : oIsi1 v n with
        | none => cases oIsi1 v m <;> exact bad_ans
        | some b =>
          cases e3 : oIsi1 v m with
          | none => exact bad_ans
          | some c =>
            obtain ⟨t, e1, e2⟩ := oIsi1_ok e2
            obtain ⟨t', e1', e3⟩ := oIsi1_ok e3
            rw [e1] at e1'; cases e1'
            refine ans_pure _ (fun _ => rp_bl.mpr rfl) fun Q q => .inr ⟨x, a, _, _, [.type n, .type m], b || c, rfl, ha, .cons (.ty n) (.cons (.ty m) .nil), tag_ty e1 h1.rdr, ?_, q⟩
            refine kitAny_cons (kit_ty (tgIs_kit e2)) (fun hb => ?_) fun hb => by rw [hb]; rfl
            subst hb
            refine kitAny_cons (kit_ty (tgIs_kit e3)) (fun hb => ?_) fun hb => by rw [hb]; rfl
            subst hb
            exact kitAny_nil

/-! ### slices -/
abbrev OD := EnvD → Res (Option Int × EnvD)
def pNone : OD := fun env => .ok (none, env)
def pSome (d : ED) : OD := fun env => d env >>= fun a => match a.1 with
  | .int i => .ok (some i, a.2.2)
  | _ => .bad
def okO (G : Cfg) (σ : L2.St) (Q : Option Int → Hp → Prop) : Option Int × EnvD → AP → Hp → Prop := fun r M H => RelEnv G.K H G.P M σ r.2 → Q r.1 H
def tO (G : Cfg) (d : OD) : TO := fun σ H Q => ∃ M env, RelEnv G.K H G.P M σ env ∧ Post G M H (okO G σ Q) (d env)
def cutD (vs : List Val) (lo hi : Option Int) : List Val := (vs.drop (HT.sIx vs.length 0 lo)).take (HT.sIx vs.length vs.length hi - HT.sIx vs.length 0 lo)
theorem cutD_length (vs : List Val) (lo hi : Option Int) : (cutD vs lo hi).length ≤ vs.length := by
  unfold cutD
  rw [List.length_take, List.length_drop]
  omega
theorem RpL.cut {K : PySem.W.Frag} {H : Hp} {A : AP} {vs : List Val} {xs : List V} (l : RpL K H A vs xs) (lo hi : Option Int) : RpL K H A (cutD vs lo hi) (cutV xs lo hi) := by
  unfold cutD cutV
  rw [l.length]
  exact (l.drop _).take _
def oSl : Val → Option Int → Option Int → Res (Val × Bool)
  | .lst vs, lo, hi => .ok (.lst (cutD vs lo hi), true)
  | .tup vs, lo, hi => .ok (.tup (cutD vs lo hi), false)
  | .scr is, lo, hi => if is.length ≤ sizeLine then .ok (.lst (cutD (is.map .int) lo hi), true) else .bad
  | .str s, lo, hi => if s.length ≤ sizeLine then .ok (.str (cutS s lo hi), false) else .bad
  | _, _, _ => .bad
def rSlV (K : PySem.W.Frag) : V → Option Int → Option Int → Hp → VK → Prop := fun x lo hi H Q => rSlL K x lo hi H Q ∨ rSlA K x lo hi H Q ∨ rSlS x lo hi H Q
theorem sl_V {X : Cx} : SlR X (rSlV X.K) := sl_list.or (sl_tupA.or sl_str)
theorem cut_whole {vs : List Val} {lo hi : Option Int} (h : HT.sIx vs.length 0 lo = 0 ∧ HT.sIx vs.length vs.length hi = vs.length) : cutD vs lo hi = vs := by
  unfold cutD
  rw [h.1, h.2]; simp
theorem s_sl {K : PySem.W.Frag} {H : Hp} {A : AP} {v : Val} {x : V} {lo hi : Option Int} (al : ∀ a, A a → H a ≠ none) (hv : Rp K H A v x) : Ans K H A (rSlV K x lo hi) (oSl v lo hi) := by
  cases v <;> try exact bad_ans
  case lst vs =>
    rw [rp_lst] at hv
    obtain ⟨a, xs, rfl, _, ha, l, z⟩ := hv
    exact fun Q q => .inl ⟨a, xs, rfl, SqL.of ha, fun p hp => q _ _ (same_upd hp) (new_lst hp (l.cut lo hi) (Nat.le_trans (cutD_length _ _ _) z))⟩
  case tup vs =>
    have hv' := hv
    rw [rp_tup] at hv
    obtain ⟨a, xs, rfl, _, ha, l, z⟩ := hv
    refine fun Q q => .inr (.inl ⟨a, xs, rfl, SqT.of ha, fun w => ?_, fun w p hp => q _ _ (same_upd hp) (new_tup al hp (l.cut lo hi) (Nat.le_trans (cutD_length _ _ _) z))⟩)
    rw [l.length] at w
    exact q _ H (fun _ _ e => e) (by rw [cut_whole w]; exact hv')
  case scr is =>
    rw [rp_scr] at hv
    obtain ⟨a, rfl, ha⟩ := hv
    show Ans _ _ _ _ (if is.length ≤ sizeLine then _ else _)
    split
    · rename_i z
      have l : RpL K H A (is.map .int) (is.map V.int) := by
        clear z ha
        induction is with
        | nil => exact RpL.nil
        | cons i is ih => exact rpl_cc.mpr ⟨rp_int.mpr rfl, ih⟩
      exact fun Q q => .inl ⟨a, _, rfl, ha.sq, fun p hp => q _ _ (same_upd hp) (new_lst hp (l.cut lo hi) (Nat.le_trans (cutD_length _ _ _) (by rw [List.length_map]; exact z)))⟩
    · exact bad_ans
  case str s =>
    rw [rp_str] at hv; subst hv
    show Ans _ _ _ _ (if s.length ≤ sizeLine then _ else _)
    split
    · rename_i z; exact ans_pure _ (fun _ => rp_str.mpr rfl) fun Q q => .inr (.inr ⟨s, rfl, z, q⟩)
    · exact bad_ans
def dSl (da : ED) (lo hi : OD) : ED := fun env => da env >>= fun a => lo a.2.2 >>= fun l => hi l.2 >>= fun h => oSl a.1 l.1 h.1 >>= fun z => .ok (z.1, z.2, h.2)
section
variable {X : Cx} {G : Cfg} {e : Expr} {lo hi : Option Expr} {d : ED} {dl dh : OD} {pos p2 : Pos}
theorem _root_.L2.PO.pv {X : Cx} {e : Option Expr} {t t' : TO} (h : PO X e t) (w : ∀ σ H Q, t' σ H Q → t σ H Q) : PO X e t' := ⟨fun pins s σ H Q I q => h.run pins s σ H Q I (w σ H Q q)⟩
theorem so_none : PO X none (tO G pNone) := po_none.pv fun σ H Q ⟨M, env, R, p⟩ => p M H .refl R
theorem so_some (he : PE X e (tE G d)) : PO X (some e) (tO G (pSome d)) := (po_some he).pv fun σ H Q ⟨M, env, R, p⟩ => by
  refine Post.bindF R p fun v o e1 x M1 H1 x1 R1 r1 p1 => ?_
  cases v <;> try exact p1.elim
  rename_i i
  rw [rp_int] at r1; subst r1
  exact ⟨i, rfl, p1 M1 H1 .refl R1⟩
theorem Post.bindO {α : Type} {M : AP} {H : Hp} {σ : L2.St} {env : EnvD} {ok : α → AP → Hp → Prop} {f : Option Int × EnvD → Res α} {d : OD} {B : Option Int → Hp → Prop} (R : RelEnv G.K H G.P M σ env) (h : Post G M H ok (d env >>= f))
    (k : ∀ b env' M' H', Ext M H M' H' → RelEnv G.K H' G.P M' σ env' → Post G M' H' ok (f (b, env')) → B b H') : tO G d σ H B := by
  refine ⟨M, env, R, ?_⟩
  cases q : d env with
  | ok a =>
    obtain ⟨b, env'⟩ := a
    rw [q] at h
    exact fun M' H' e R' => k b env' M' H' e R' (Post.mono (r := f (b, env')) h e)
  | exc c p => rw [q] at h; exact h
  | bad => rw [q] at h; exact h
theorem se_sl (hK : X.K = G.K) (he : PE X e (tE G d)) (hl : PO X lo (tO G dl)) (hh : PO X hi (tO G dh)) : PE X (.Subscript e (.Slice lo hi none p2) pos) (tE G (dSl d dl dh)) := (pe_slice sl_V he hl hh).pv fun σ H Q ⟨M, env, R, p⟩ => by
  refine Post.bindF R p fun v o e1 x M1 H1 x1 R1 r1 p1 => ?_
  refine Post.bindO R1 p1 fun l e2 M2 H2 x2 R2 p2 => ?_
  refine Post.bindO R2 p2 fun h e3 M3 H3 x3 R3 p3 => ?_
  rw [hK]
  exact fin_ans R3 (s_sl R3.al (Rp.stay ((x2.trans x3).stay R1.pal) _ _ r1)) p3
end

/-! ### enumerate, zip of lists, tuples, texts -/
/-- what is walked: a list, a tuple, a text -/
inductive SK where | l (a : Addr) | t (a : Addr) | s (z : Str)
def SK.v : SK → V
  | .l a => .ref a
  | .t a => .ref a
  | .s z => .str z
def signsV (z : Str) : List V := z.cps.toList.map fun c => V.str ⟨#[c]⟩
def SqK (k : SK) (H : Hp) (xs : List V) : Prop := match k with
  | .l a => H a = some (.lst xs)
  | .t a => H a = some (.tup xs)
  | .s z => xs = signsV z ∧ z.length ≤ sizeLine
def IterK (k : SK) (t : Tok) (h : Heap) (it : Addr) (i : Nat) : Prop := match k with
  | .l a => h.IsListIter it a i
  | .t a => h.IsTupleIter it a i
  | .s z => h.IsStrIter it (strIterType z) z t i
def IsSeqK (k : SK) (h : Heap) (its : Array Value) : Prop := match k with
  | .l a => h.IsList a its
  | .t a => h.IsTuple a its
  | .s z => its.size = z.cps.size
def PK (k : SK) (its : Array Value) (i : Nat) (v : Value) : Prop := match k with
  | .l _ => its[i]? = some v
  | .t _ => its[i]? = some v
  | .s z => ∃ c u, z.cps[i]? = some c ∧ v = .str ⟨#[c]⟩ u
/-- the cell that is walked, where there is one -/
def baseK : SK → List Addr
  | .l a => [a]
  | .t a => [a]
  | .s _ => []
def fpK (k : SK) (it : Addr) : List Addr := it :: baseK k
section
variable {X : Cx} {pins : List (Addr × Obj)} {σ : L2.St} {H : Hp} {s : Shared} {it : Addr} {k : SK} {t : Tok} {xs ys : List V} {i : Nat} {h h' : Heap}
theorem seqK (I : L2.Inv X pins σ H s) (hq : SqK k H xs) : ∃ its : Array Value, (∀ i x v, xs[i]? = some x → PK k its i v → RelV x v) ∧ xs.length = its.size ∧ IsSeqK k s.heap its ∧ xs.length ≤ sizeLine := by
  have go : ∀ {its : List Value}, Vals xs its → ∀ i x v, xs[i]? = some x → its.toArray[i]? = some v → RelV x v := fun {its} r i x v hx hv => by
    obtain ⟨u, hu, ru⟩ := r.get hx
    rw [List.getElem?_toArray, hu] at hv; cases hv; exact ru
  cases k with
  | l a => obtain ⟨its, r, p, z⟩ := I.list (SqL.of (K := X.K) hq); exact ⟨its.toArray, go r, by rw [List.size_toArray]; exact r.length, p.isList, z⟩
  | t a => obtain ⟨its, r, p, z⟩ := I.tuple (SqT.of (K := X.K) hq); exact ⟨its.toArray, go r, by rw [List.size_toArray]; exact r.length, p, z⟩
  | s z =>
    obtain ⟨rfl, hz⟩ := hq
    refine ⟨Array.replicate z.cps.size .none, fun i x v hx hv => ?_, by simp [signsV], by simp [IsSeqK], by show (z.cps.toList.map _).length ≤ _; rw [List.length_map, Array.length_toList]; exact hz⟩
    obtain ⟨c, u, hc, rfl⟩ := hv
    unfold signsV at hx
    rw [List.getElem?_map] at hx
    have : z.cps.toList[i]? = some c := by simpa using hc
    rw [this] at hx; cases hx
    exact ⟨u, rfl⟩
theorem seqK_inj (h1 : SqK k H xs) (h2 : SqK k H ys) : xs = ys := by
  cases k with
  | l a => have := h1.symm.trans h2; simp at this; exact this
  | t a => have := h1.symm.trans h2; simp at this; exact this
  | s z => rw [h1.1, h2.1]
theorem SqK.ne {c : Addr} (h1 : SqK k H xs) (hn : H c = none) : c ∉ baseK k := by
  cases k <;> simp only [baseK, List.mem_singleton, List.not_mem_nil, not_false_eq_true]
  all_goals
    intro z
    rw [z] at hn
    exact absurd (hn.symm.trans h1) (by simp)
theorem IterK.at (x : IterK k t h it i) (q : ∀ o, h.get? it = some o → h'.get? it = some o) : IterK k t h' it i := by
  cases k with
  | l a => exact Heap.IsListIter.at x q
  | t a => exact Heap.IsTupleIter.at x q
  | s z => obtain ⟨o, ho, r⟩ := x; exact ⟨o, q o ho, r⟩
theorem IterK.obj (x : IterK k t h it i) : ∃ o, h.get? it = some o ∧ ∀ v, o.data ≠ .cell v := by
  cases k with
  | l a => obtain ⟨o, ho, hc, hd⟩ := x; exact ⟨o, ho, fun v q => by rw [hd] at q; cases q⟩
  | t a => obtain ⟨o, ho, hc, hd⟩ := x; exact ⟨o, ho, fun v q => by rw [hd] at q; cases q⟩
  | s z => obtain ⟨o, ho, hc, hd⟩ := x; exact ⟨o, ho, fun v q => by rw [hd] at q; cases q⟩
theorem IsSeqK.lt {its : Array Value} (x : IsSeqK k h its) : ∀ c ∈ baseK k, c < h.objs.size := by
  cases k <;> intro c hc <;> simp only [baseK, List.mem_singleton, List.not_mem_nil] at hc
  all_goals
    have ⟨_, e, _⟩ := x
    exact hc ▸ Heap.lt_size e
theorem IsSeqK.at {its : Array Value} (x : IsSeqK k h its) {S : Addr} (hS : S ∉ baseK k) (q : ∀ c o, c ≠ S → h.get? c = some o → h'.get? c = some o) : IsSeqK k h' its := by
  cases k with
  | l a => exact Heap.IsList.at x fun o e => q _ o (fun z => hS (by simp [baseK, z])) e
  | t a => exact Heap.IsTuple.at x fun o e => q _ o (fun z => hS (by simp [baseK, z])) e
  | s z => exact x
theorem IsSeqK.keep {its : Array Value} (x : IsSeqK k h its) (q : ∀ c o, h.get? c = some o → h'.get? c = some o) : IsSeqK k h' its := by
  cases k with
  | l a => exact Heap.IsList.at x fun o e => q _ o e
  | t a => exact Heap.IsTuple.at x fun o e => q _ o e
  | s z => exact x
theorem drawsK {prog : Program} {w : World} {A : Around} (hh : A.handled = none) (it : Addr) (hne : it ∉ baseK k) (its : Array Value) :
    Draws prog w A it (fpK k it) its.size (PK k its) (fun i h => IterK k t h it i ∧ IsSeqK k h its) := by
  cases k with
  | l a => exact Draws.list hh it a (fun z => hne (by simp [baseK, z])) its
  | t a => exact Draws.tuple hh it a (fun z => hne (by simp [baseK, z])) its
  | s z =>
    have D := Draws.text (prog := prog) (w := w) hh it z t
    exact {
      live := fun i h st => D.live i h st.1
      frame := fun i h h' st q => ⟨D.frame i h h' st.1 q, st.2⟩
      item := fun i s Q E hi st hQ => D.item i s Q E (by rw [← (show its.size = z.cps.size from st.2)]; exact hi) st.1 fun x h' tk e1 e2 e3 => hQ x h' tk e1 ⟨e2, st.2⟩ e3
      done := fun s Q E st hE => D.done s Q E (by rw [← (show its.size = z.cps.size from st.2)]; exact st.1) hE }
end
/-! Iterators of pairs, from what the library tells of their walks (GoesN). -/
/-- the pairs ps, one new tuple a turn; S tells them from the heap -/
def pairIt (S : Hp → List (V × V) → Prop) : It where
  go i H := ∃ ps, S H ps ∧ i < ps.length
  yld i H v H' := ∃ (T : Addr) (p : V × V), v = .ref T ∧ H T = none ∧ H' = upd H T (.tup [p.1, p.2]) ∧ ∀ ps, S H ps → ps[i]? = some p
  stop i H := ∃ ps, S H ps ∧ ps.length = i
/-- what a walk owes for it -/
def PairWalk (X : Cx) (tg : Expr) (e : Addr) (fp : List Addr) (tn : Nat → Heap → Prop) (s : Shared) (ps : List (V × V)) : Prop :=
  ∃ (fp' wr : List Addr) (Y : Nat → Heap → Value → Heap → Prop) (St : Nat → Heap → Prop), GoesN X.prog X.w X.A tg e fp' wr ps.length Y St ∧ (∀ c ∈ wr, c ∈ fp) ∧ (∀ i, tn i s.heap → St i s.heap) ∧ (∀ i h, St i h → tn i h) ∧
    ∀ i p h0 v h, ps[i]? = some p → Y i h0 v h → ∃ T x y, v = .ref T ∧ h0.objs.size ≤ T ∧ RelV p.1 x ∧ RelV p.2 y ∧ h.IsTuple T #[x, y]
theorem turnPairs {P : Program} {w : World} {K : PySem.W.Frag} {tg : Expr} {S : Hp → List (V × V) → Prop} {fp : List Addr} {e : Addr} {tn : Nat → Heap → Prop} (inj : ∀ H ps qs, S H ps → S H qs → ps = qs) (mem : e ∈ fp)
    (obj : ∀ i h, tn i h → ∀ c ∈ fp, ∃ o, h.get? c = some o ∧ ∀ v, o.data ≠ .cell v)
    (keep : ∀ i h h', tn i h → (∀ c ∈ fp, ∀ o, h.get? c = some o → h'.get? c = some o) → tn i h')
    (self : ∀ (A : Around) (i : Nat) (s : Shared) (Q : Value → Shared → Prop) (E : Value → Shared → Prop), tn i s.heap → Q (.ref e) s → wpAny (model P w) A (pyIter (.ref e)) Q E s)
    (walk : ∀ (X : Cx), X.prog = P → X.w = w → X.K = K → X.calm = true → ∀ pins σ H s ps, L2.Inv X pins σ H s → (∀ c ∈ fp, FpOk X pins H c) → S H ps → PairWalk X tg e fp tn s ps) :
    Turn P w K tg (pairIt S) fp e tn := by
  refine ⟨mem, obj, keep, ?_, ?_, self⟩
  · rintro X rfl rfl rfl hc i pins s σ H E I hf st ⟨ps, hS, hi⟩
    obtain ⟨fp', wr, Y, St, W, sub, to, fro, tells⟩ := walk X rfl rfl rfl hc pins σ H s ps I hf hS
    refine W.goes i s _ E hi (to i st) fun v h' tk hY st' hk _ => ?_
    obtain ⟨T, x, y, rfl, hT, rx, ry, isT⟩ := tells i ps[i] s.heap v h' (List.getElem?_eq_getElem hi) hY
    refine ⟨.ref T, _, I.turnedNew (ob := .tup [ps[i].1, ps[i].2]) hk (fun c z => hf c (sub c z)) hT ⟨?_, [x, y], .cons rx (.cons ry .nil), isT⟩, rfl, ⟨T, ps[i], rfl, I.hok.fresh hT, rfl, fun qs hq => ?_⟩, fro _ _ st', fun c z => ?_⟩
    · show 2 ≤ sizeLine
      decide
    · rw [inj H qs ps hq hS]
      exact List.getElem?_eq_getElem hi
    · obtain ⟨o, ho, _⟩ := obj i _ st c z
      rw [upd_ne (Nat.ne_of_lt (Nat.lt_of_lt_of_le (Heap.lt_size ho) hT))]
      exact (hf c z).1
  · rintro X rfl rfl rfl hc i pins s σ H E I hf st ⟨ps, hS, rfl⟩
    obtain ⟨fp', wr, Y, St, W, sub, to, fro, tells⟩ := walk X rfl rfl rfl hc pins σ H s ps I hf hS
    exact W.stops s _ E (to _ st) fun h' tk hk _ => I.turnedL hk fun c z => hf c (sub c z)
def enumS (k : SK) (H : Hp) (ps : List (V × V)) : Prop := ∃ xs, SqK k H xs ∧ ps = xs.mapIdx fun i x => (.int i, x)
def zipS (k1 k2 : SK) (H : Hp) (ps : List (V × V)) : Prop := ∃ xs ys, SqK k1 H xs ∧ SqK k2 H ys ∧ ps = xs.zip ys
def EnumAt (k : SK) (t : Tok) (e it : Addr) (i : Nat) (h : Heap) : Prop := (∃ old, IsEnum h e it (0 + (i : Int)) old) ∧ IterK k t h it i
theorem turnEnum {P : Program} {w : World} {K : PySem.W.Frag} {elts : List Expr} {kk : Nat} {tpos : Pos} {k : SK} {t : Tok} {e it : Addr} (hne : e ≠ it) (hb : it ∉ baseK k) (hbe : e ∉ baseK k) :
    Turn P w K (.Tuple elts kk tpos) (pairIt (enumS k)) [e, it] e (EnumAt k t e it) := by
  refine turnPairs ?_ (by simp) ?_ ?_ ?_ ?_
  · rintro H ps qs ⟨xs, a, rfl⟩ ⟨ys, b, rfl⟩
    rw [seqK_inj a b]
  · rintro i h ⟨⟨old, he⟩, hi⟩ c hc
    rcases List.mem_cons.mp hc with rfl | hc
    · exact ⟨_, he, fun _ q => nomatch q⟩
    · rw [List.mem_singleton.mp hc]; exact hi.obj
  · rintro i h h' ⟨⟨old, he⟩, hi⟩ q
    exact ⟨⟨old, q e (by simp) _ he⟩, hi.at fun o => q it (by simp) o⟩
  · rintro A i s Q E ⟨⟨old, he⟩, hi⟩ h
    exact wpAny_pyIter_enum he h
  · rintro X rfl rfl rfl hc pins σ H s _ I hf ⟨xs, hq, rfl⟩
    obtain ⟨its, rel, le, sq, -⟩ := seqK I hq
    have W := GoesN.enumFrom (elts := elts) (x1 := kk) (pos := tpos) 0 (drawsK (prog := X.prog) (w := X.w) (A := X.A.in1) (t := t) (I.ok.hd hc) it hb its) e hne (fun z => (List.mem_cons.mp z).elim hne hbe) (List.mem_cons_self ..)
    rw [← le, ← List.length_mapIdx (f := fun i x => ((.int i : V), x))] at W
    refine ⟨_, _, _, _, W, fun _ z => z, fun i st => ⟨st.1, st.2, sq⟩, fun i h st => ⟨st.1, st.2.1⟩, ?_⟩
    rintro i p h0 v h ep ⟨T, tk, x, rfl, hT, hx, isT⟩
    rw [List.getElem?_mapIdx] at ep
    obtain ⟨x', ex, rfl⟩ := Option.map_eq_some_iff.mp ep
    exact ⟨T, _, x, rfl, hT, ⟨tk, by simp⟩, rel i x' x ex hx, isT⟩
def ZipAt (k1 k2 : SK) (t1 t2 : Tok) (z TI TO i1 i2 : Addr) (i : Nat) (h : Heap) : Prop :=
  IsZip h z TI TO .none ∧ IsTupOf2 h TI (.ref i1) (.ref i2) ∧ (∃ a1 a2, IsTupOf2 h TO a1 a2) ∧ IterK k1 t1 h i1 i ∧ IterK k2 t2 h i2 i
theorem turnZip {P : Program} {w : World} {K : PySem.W.Frag} {elts : List Expr} {kk : Nat} {tpos : Pos} {k1 k2 : SK} {t1 t2 : Tok} {z TI TO i1 i2 : Addr} (D : ZipSep2 z TI TO i1 i2 (fpK k1 i1) (fpK k2 i2)) (hb1 : i1 ∉ baseK k1) (hb2 : i2 ∉ baseK k2) :
    Turn P w K (.Tuple elts kk tpos) (pairIt (zipS k1 k2)) [z, TI, TO, i1, i2] z (ZipAt k1 k2 t1 t2 z TI TO i1 i2) := by
  refine turnPairs ?_ (by simp) ?_ ?_ ?_ ?_
  · rintro H ps qs ⟨xs, ys, a, b, rfl⟩ ⟨xs', ys', a', b', rfl⟩
    rw [seqK_inj a a', seqK_inj b b']
  · rintro i h ⟨a, b, ⟨_, _, c⟩, d, e⟩ u hu
    simp only [List.mem_cons, List.not_mem_nil, or_false] at hu
    rcases hu with rfl | rfl | rfl | rfl | rfl
    · exact ⟨_, a, fun _ q => nomatch q⟩
    · exact ⟨_, b, fun _ q => nomatch q⟩
    · exact ⟨_, c, fun _ q => nomatch q⟩
    · exact d.obj
    · exact e.obj
  · rintro i h h' ⟨a, b, ⟨_, _, c⟩, d, e⟩ q
    exact ⟨q z (by simp) _ a, q TI (by simp) _ b, ⟨_, _, q TO (by simp) _ c⟩, d.at fun o => q i1 (by simp) o, e.at fun o => q i2 (by simp) o⟩
  · rintro A i s Q E ⟨a, -⟩ h
    exact wpAny_pyIter_zip a h
  · rintro X rfl rfl rfl hc pins σ H s _ I hf ⟨xs, ys, hx, hy, rfl⟩
    obtain ⟨as, rel1, le1, sq1, -⟩ := seqK I hx
    obtain ⟨bs, rel2, le2, sq2, -⟩ := seqK I hy
    have hd := I.ok.hd hc
    have W := GoesN.zip2 (elts := elts) (x1 := kk) (pos := tpos) D (drawsK (prog := X.prog) (w := X.w) (A := X.A.in1) (t := t1) hd i1 hb1 as) (drawsK (prog := X.prog) (w := X.w) (A := X.A.in1) (t := t2) hd i2 hb2 bs)
    rw [← le1, ← le2, ← List.length_zip] at W
    refine ⟨_, _, _, _, W, ?_, fun i st => ⟨st.1, st.2.1, st.2.2.1, ⟨st.2.2.2.1, sq1⟩, st.2.2.2.2, sq2⟩, fun i h st => ⟨st.1, st.2.1, st.2.2.1, st.2.2.2.1.1, st.2.2.2.2.1⟩, ?_⟩
    · intro c hc; revert hc; simp only [List.mem_cons, List.not_mem_nil, or_false]; intro hc; rcases hc with h | h | h | h <;> simp [h]
    · rintro i ⟨p, q⟩ h0 v h ep ⟨T, x, y, rfl, hT, h1, h2, isT⟩
      obtain ⟨e1, e2⟩ := List.getElem?_zip_eq_some.mp ep
      exact ⟨T, x, y, rfl, hT, rel1 i p x e1 h1, rel2 i q y e2 h2, isT⟩
end PV

namespace PySem
open Sem (wp)
/-- whoever asks how the class was called gets one of two answers -/
theorem calledThrough_any {prog : Program} {w : World} {A : Around} {E : Value → Shared → Prop} {s : Shared} {c : Value} {Q : Bool → Shared → Prop} (h : ∀ b, Q b s) : wpAny (model prog w) A (Builtin.SmallTypes.calledThroughType c) Q E s := by
  unfold Builtin.SmallTypes.calledThroughType
  exact wpAny_bind (wpAny_stack_any fun st => wpAny_pure (h _))
/-- enumerate(v) for any v that begins an iterator -/
theorem enum_new1 {v : Value} {o : Obj} {H : Heap → Prop} (B : Begins v o H) : Meets (Builtin.«enumerate.__new__» ⟨[.type "enumerate", v], []⟩) (fun _ R s => H s.heap ∧
    R (.ok (.ret (.ref (s.heap.objs.size + 1)))) { s with heap := (s.heap.push o).push { cls := .type "enumerate", data := .fields #[.none, .bool false, .ref s.heap.objs.size, rawInt 0, .none, .none] } }) := by
  refine .of_wp fun prog w A R s ⟨h1, h⟩ => ?_
  have begin' := fun {A' : Around} {E : Value → Shared → Prop} {Q : Value → Shared → Prop} => B.iter prog w A' E s Q h1
  have sub := sub_enumerate
  wp_walk using calledThrough_any, begin'
  intro b
  have sz : (s.heap.push o).objs.size = s.heap.objs.size + 1 := Heap.size_push ..
  cases b <;> wp_walk using begin'
  all_goals exact ⟨_, rfl, sz ▸ h⟩
theorem enum_begins1 {prog : Program} {w : World} {A : Around} {E : Value → Shared → Prop} {s : Shared} {v : Value} {o : Obj} {H : Heap → Prop} {Q : Value → Shared → Prop} (B : Begins v o H) (h1 : H s.heap)
    (h : ∀ h' e, e = s.heap.objs.size + 1 → IsEnum h' e s.heap.objs.size 0 .none → h'.get? s.heap.objs.size = some o → (∀ b u, s.heap.get? b = some u → h'.get? b = some u) → Q (.ref e) { s with heap := h' }) :
    wpAny (model prog w) A (call (.type "enumerate") [v]) Q E s := by
  let r : Obj := { cls := .type "enumerate", data := .fields #[.none, .bool false, .ref s.heap.objs.size, rawInt 0, .none, .none] }
  have at1 : ((s.heap.push o).push r).get? (s.heap.objs.size + 1) = some r := by
    have := Heap.get?_push_size (s.heap.push o) (o := r) rfl
    rwa [Heap.size_push] at this
  have keep : ∀ b u, s.heap.get? b = some u → ((s.heap.push o).push r).get? b = some u := fun b u q => Heap.get?_push_of_some _ (Heap.get?_push_of_some _ q)
  have at0 : ((s.heap.push o).push r).get? s.heap.objs.size = some o := Heap.get?_push_of_some _ (Heap.get?_push_size _ B.free)
  exact callType_new F.called_enumerate (by decide) (F.typeCall_enumerate_1 _) (F.newCall_enumerate_1 _) (fun obj => F.args_object_init_2 obj _) F.entry_enumerate_new (enum_new1 B) ⟨h1, ⟨r, at1, rfl⟩, h _ _ rfl at1 at0 keep⟩
end PySem
namespace PV
open PySem PySem.Spec PyProof.Rows L2

section
variable {k : SK} {t : Tok} {it : Addr} {h : Heap} {its : Array Value}
def SK.val (k : SK) (t : Tok) : Value := match k with
  | .l a => .ref a
  | .t a => .ref a
  | .s z => .str z t
theorem SK.val_of {k : SK} {u : Value} (r : RelV k.v u) : ∃ t, u = k.val t := by
  cases k with
  | l a => cases r; exact ⟨0, rfl⟩
  | t a => cases r; exact ⟨0, rfl⟩
  | s z => obtain ⟨t, rfl⟩ := r; exact ⟨t, rfl⟩
def iterO (k : SK) (t : Tok) : Obj := match k with
  | .l a => { cls := .type "list_iterator", data := .fields #[.ref a, .int 0 0] }
  | .t a => { cls := .type "tuple_iterator", data := .fields #[.ref a, .int 0 0] }
  | .s z => { cls := .type (strIterType z), data := .fields #[.str z t, .int 0 0] }
theorem beginsK : Begins (k.val t) (iterO k t) fun h => IsSeqK k h its := by
  cases k with
  | l a => exact begins_list a its
  | t a => exact begins_tuple a its
  | s z =>
    have B := begins_text z t
    exact ⟨fun prog w A E s Q _ q => B.iter prog w A E s Q trivial q, fun h h' x _ => x, rfl⟩
theorem iterK_new (e : h.get? it = some (iterO k t)) : IterK k t h it 0 := by
  cases k with
  | l a => exact ⟨_, e, rfl, rfl⟩
  | t a => exact ⟨_, e, rfl, rfl⟩
  | s z => exact ⟨_, e, rfl, rfl⟩
end
/-- a shared list, tuple, a text -/
def signsD (z : Str) : List Val := z.cps.toList.map fun c => Val.str ⟨#[c]⟩
def seqKV : Val → Option (List Val)
  | .lst vs => some vs
  | .tup vs => some vs
  | .str z => if z.length ≤ sizeLine then some (signsD z) else none
  | _ => none
def NaK (A : AP) (k : SK) : Prop := match k with
  | .l a => ¬ A a
  | .t a => ¬ A a
  | .s _ => True
theorem signs_rp {K : PySem.W.Frag} {H : Hp} {A : AP} (z : Str) : RpL K H A (signsD z) (signsV z) := by
  unfold signsD signsV
  induction z.cps.toList with
  | nil => exact RpL.nil
  | cons c l ih => exact rpl_cc.mpr ⟨rp_str.mpr rfl, ih⟩
theorem seqKV_rp {K : PySem.W.Frag} {H : Hp} {A : AP} {v : Val} {x : V} {vs : List Val} (e : seqKV v = some vs) (h : Rp K H A v x) : ∃ (k : SK) (xs : List V), x = k.v ∧ NaK A k ∧ SqK k H xs ∧ RpL K H A vs xs ∧ vs.length ≤ sizeLine := by
  cases v <;> simp only [seqKV, reduceCtorEq, Option.some.injEq] at e
  case lst ws => subst e; rw [rp_lst] at h; obtain ⟨a, xs, rfl, na, ha, l, z⟩ := h; exact ⟨.l a, xs, rfl, na, ha, l, z⟩
  case tup ws => subst e; rw [rp_tup] at h; obtain ⟨a, xs, rfl, na, ha, l, z⟩ := h; exact ⟨.t a, xs, rfl, na, ha, l, z⟩
  case str z =>
    rw [rp_str] at h; subst h
    split at e
    · rename_i hz
      cases e
      exact ⟨.s z, _, rfl, trivial, ⟨rfl, hz⟩, signs_rp z, by unfold signsD; rw [List.length_map, Array.length_toList]; exact hz⟩
    · cases e
theorem SqK.stay {H H' : Hp} {A A' : AP} {k : SK} {xs : List V} (st : Stay H A H' A') (na : NaK A k) (h : SqK k H xs) : SqK k H' xs := by
  cases k with
  | l a => exact (st a _ h na).1
  | t a => exact (st a _ h na).1
  | s z => exact h
def enumD (vs : List Val) : List Val := vs.mapIdx fun i v => .tup [.int i, v]
def zipD (vs ws : List Val) : List Val := List.zipWith (fun v w => .tup [v, w]) vs ws
def enumV : List Val → Option (List Val)
  | [v] => (seqKV v).map enumD
  | _ => none
def zipVs : List Val → Option (List Val)
  | [v, w] => (seqKV v).bind fun q => (seqKV w).map fun r => zipD q r
  | _ => none
def iOf (f : List Val → Option (List Val)) (ds : List ED) : ID := fun env => dList ds env >>= fun r => match f r.1 with
  | some vs => .ok (vs, r.2)
  | none => .bad
section
variable {K : PySem.W.Frag} {H : Hp} {A : AP}
theorem new_pair {p : Addr} {v w : Val} {x y : V} (al : ∀ a, A a → H a ≠ none) (hp : H p = none) (h1 : Rp K H A v x) (h2 : Rp K H A w y) : Rp K (upd H p (.tup [x, y])) A (.tup [v, w]) (.ref p) :=
  new_tup al hp (rpl_cc.mpr ⟨h1, RpL.one h2⟩) (by show 2 ≤ sizeLine; decide)
/-- an iterator of pairs gives the tuples of the values that its pairs stand for -/
theorem itOk_pairs {S : Hp → List (V × V) → Prop} {ps : List (V × V)} {qs : List (Val × Val)} (hS : ∀ H1 A1, Stay H A H1 A1 → S H1 ps) (len : qs.length = ps.length) (rel : ∀ (i : Nat) (q : Val × Val) (p : V × V), qs[i]? = some q → ps[i]? = some p → Rp K H A q.1 p.1 ∧ Rp K H A q.2 p.2) :
    ItOk K H A (pairIt S) (qs.map fun q => .tup [q.1, q.2]) := by
  refine fun i H1 A1 st al => ⟨fun hi => ⟨ps, hS _ _ st, by rw [← len, ← hi, List.length_map]⟩, fun v e => ?_⟩
  rw [List.getElem?_map] at e
  obtain ⟨q, eq, rfl⟩ := Option.map_eq_some_iff.mp e
  have hi : i < ps.length := len ▸ (List.getElem?_eq_some_iff.mp eq).1
  obtain ⟨r1, r2⟩ := rel i q ps[i] eq (List.getElem?_eq_getElem hi)
  refine ⟨⟨ps, hS _ _ st, hi⟩, ?_⟩
  rintro x H2 ⟨T, p, rfl, hT, rfl, z⟩
  obtain rfl : ps[i] = p := by simpa [List.getElem?_eq_getElem hi] using z ps (hS _ _ st)
  exact ⟨same_upd hT, new_pair al hT (Rp.stay st _ _ r1) (Rp.stay st _ _ r2)⟩
theorem itOk_enum {k : SK} {xs : List V} {vs : List Val} (na : NaK A k) (ha : SqK k H xs) (l : RpL K H A vs xs) : ItOk K H A (pairIt (enumS k)) (enumD vs) := by
  have e : enumD vs = (vs.mapIdx fun i v => (Val.int i, v)).map fun q => .tup [q.1, q.2] := by unfold enumD; apply List.ext_getElem? ; intro i; simp only [List.getElem?_map, List.getElem?_mapIdx, Option.map_map]; rfl
  rw [e]
  refine itOk_pairs (fun H1 A1 st => ⟨xs, ha.stay st na, rfl⟩) (by simp [l.length]) fun i q p eq ep => ?_
  rw [List.getElem?_mapIdx] at eq ep
  obtain ⟨v, ev, rfl⟩ := Option.map_eq_some_iff.mp eq
  obtain ⟨x, ex, rfl⟩ := Option.map_eq_some_iff.mp ep
  obtain ⟨x', ex', r⟩ := l.get ev
  rw [ex] at ex'; cases ex'
  exact ⟨rp_int.mpr rfl, r⟩
theorem itOk_zip {k1 k2 : SK} {xs ys : List V} {vs ws : List Val} (na : NaK A k1) (nb : NaK A k2) (ha : SqK k1 H xs) (hb : SqK k2 H ys) (l : RpL K H A vs xs) (l2 : RpL K H A ws ys) : ItOk K H A (pairIt (zipS k1 k2)) (zipD vs ws) := by
  have e : zipD vs ws = (vs.zip ws).map fun q => .tup [q.1, q.2] := by unfold zipD; rw [List.zip, List.map_zipWith]
  rw [e]
  refine itOk_pairs (fun H1 A1 st => ⟨xs, ys, ha.stay st na, hb.stay st nb, rfl⟩) (by simp [l.length, l2.length]) fun i q p eq ep => ?_
  obtain ⟨e1, e2⟩ := List.getElem?_zip_eq_some.mp eq
  obtain ⟨f1, f2⟩ := List.getElem?_zip_eq_some.mp ep
  obtain ⟨x, ex, rx⟩ := l.get e1
  obtain ⟨y, ey, ry⟩ := l2.get e2
  rw [f1] at ex; rw [f2] at ey; cases ex; cases ey
  exact ⟨rx, ry⟩
end
def iEnumK (ta : TA) : TI := fun σ H R => ta σ H fun vs H1 => ∃ (k : SK) (xs : List V), vs = [k.v] ∧ SqK k H1 xs ∧ R (pairIt (enumS k)) H1
def iZipK (ta : TA) : TI := fun σ H R => ta σ H fun vs H1 => ∃ (k1 k2 : SK) (xs ys : List V), vs = [k1.v, k2.v] ∧ SqK k1 H1 xs ∧ SqK k2 H1 ys ∧ R (pairIt (zipS k1 k2)) H1
section
variable {X : Cx} {e e2 : Expr} {ta : TA} {p pos tpos : Pos} {elts : List Expr} {kk : Nat}
theorem fpNew {pins : List (Addr × Obj)} {σ : L2.St} {H : Hp} {s : Shared} (I : L2.Inv X pins σ H s) {c : Addr} (h : s.heap.objs.size ≤ c) : FpOk X pins H c := I.fpOk h (I.hok.fresh h)
theorem valsK1 {x : V} {us : List Value} (h : Vals [x] us) : ∃ u, us = [u] ∧ RelV x u := by
  cases h with
  | cons r t' => cases t'; exact ⟨_, rfl, r⟩
theorem valsK2 {x y : V} {us : List Value} (h : Vals [x, y] us) : ∃ u w, us = [u, w] ∧ RelV x u ∧ RelV y w := by
  cases h with
  | cons r t' =>
    cases t' with
    | cons r2 t2 => cases t2; exact ⟨_, _, rfl, r, r2⟩
theorem pi_enumK (hg : Gl X "enumerate") (hm : X.mg "enumerate" = none) (ha : PA X [e] ta) (hs : starEach [e] X.env = [(false, eval e X.env)]) : PI X (.Tuple elts kk tpos) (.Call (.Name "enumerate" p) [e] [] pos) (iEnumK ta) := by
  constructor
  intro pins s σ H R I h
  refine Call_ (ld_blt I hg hm boot_enumerate (PyProof.Rows.callWith_type1 (thn (ha.run pos pins s σ H _ I h) fun us s1 ⟨vs, H1, I1, r1, k, xs, ex, hq, q⟩ => ?_) hs rfl))
  subst ex
  obtain ⟨u, hu, ru⟩ := valsK1 r1
  subst hu
  obtain ⟨tk, rfl⟩ := SK.val_of ru
  obtain ⟨its, rel, le, sq, hz⟩ := seqK I1 hq
  have old := sq.lt
  refine enum_begins1 (beginsK (k := k) (t := tk) (its := its)) sq fun h' e1 ee he ho hk => wpAny_pyIter_enum he ?_
  have lt1 : s1.heap.objs.size < e1 := ee ▸ Nat.lt_succ_self _
  have out : ∀ c, s1.heap.objs.size ≤ c → c ∉ baseK k := fun c hc hm => absurd (old c hm) (Nat.not_lt.mpr hc)
  refine ⟨e1, _, _, _, H1, rfl, I1.kept (t' := s1.toks) hk, turnEnum (k := k) (t := tk) (Nat.ne_of_gt lt1) (out _ (Nat.le_refl _)) (out _ (Nat.le_of_lt lt1)), ⟨⟨.none, he⟩, iterK_new ho⟩, fun c hc => fpNew I1 ?_, q⟩
  rcases List.mem_cons.mp hc with rfl | hc
  · exact Nat.le_of_lt lt1
  · rw [List.mem_singleton.mp hc]; exact Nat.le_refl _
theorem pi_zipK (hg : Gl X "zip") (hm : X.mg "zip" = none) (ha : PA X [e, e2] ta) (hs : starEach [e, e2] X.env = (false, eval e X.env) :: starEach [e2] X.env) (hpl : (backTo pos (starEach [e2] X.env)).any (·.1) = false) :
    PI X (.Tuple elts kk tpos) (.Call (.Name "zip" p) [e, e2] [] pos) (iZipK ta) := by
  constructor
  intro pins s σ H R I h
  refine Call_ (ld_blt I hg hm PyProof.Rows.boot_zip (PyProof.Rows.callWith_type1 (thn (ha.run pos pins s σ H _ I h) fun us s1 ⟨vs, H1, I1, r1, k1, k2, xs, ys, ex, hqx, hqy, q⟩ => ?_) hs hpl))
  subst ex
  obtain ⟨u, w, hu, ru, rw'⟩ := valsK2 r1
  subst hu
  obtain ⟨tk1, rfl⟩ := SK.val_of ru
  obtain ⟨tk2, rfl⟩ := SK.val_of rw'
  obtain ⟨its, rel, le, sq, hz⟩ := seqK I1 hqx
  obtain ⟨its2, rel2, le2, sq2, hz2⟩ := seqK I1 hqy
  refine zip_begins2 (beginsK (k := k1) (t := tk1) (its := its)) (beginsK (k := k2) (t := tk2) (its := its2)) sq sq2 fun h' z1 z2 z3 z4 z5 hsz hk => wpAny_pyIter_zip z1 ?_
  have old1 := sq.lt
  have old2 := sq2.lt
  have out : ∀ {k : SK} (i : Nat), (∀ c ∈ baseK k, c < s1.heap.objs.size) → s1.heap.objs.size + i ∉ baseK k := fun i old hm => absurd (old _ hm) (Nat.not_lt.mpr (Nat.le_add_right _ _))
  refine ⟨_, _, _, _, H1, rfl, I1.kept (t' := s1.toks) hk, turnZip (zip_sep2 old1 old2) (out 0 old1) (out 1 old2), ⟨z1, z2, ⟨_, _, z3⟩, iterK_new z4, iterK_new z5⟩, fun c hc => fpNew I1 ?_, q⟩
  simp only [List.mem_cons, List.not_mem_nil, or_false] at hc
  rcases hc with rfl | rfl | rfl | rfl | rfl <;> first | exact Nat.le_refl _ | exact Nat.le_add_right _ _
variable {G : Cfg} {ds : List ED}
theorem si_enum (hg : Gl X "enumerate") (hm : X.mg "enumerate" = none) (ha : PA X [e] (tL G ds)) (hs : starEach [e] X.env = [(false, eval e X.env)]) : PI X (.Tuple elts kk tpos) (.Call (.Name "enumerate" p) [e] [] pos) (tI G (iOf enumV ds)) := (pi_enumK hg hm ha hs).pv fun σ H R ⟨M, env, Rl, p⟩ => by
  refine Post.bindL Rl p fun vs e2 xs M2 H2 q x2 R2 r2 p2 => ?_
  simp only at p2
  match vs, r2, p2 with
  | [], _, p2 => exact p2.elim
  | _ :: _ :: _, _, p2 => exact p2.elim
  | [v], r2, p2 =>
    rw [rpl_cons] at r2; obtain ⟨x, r, rfl, h1, h2⟩ := r2
    rw [rpl_nil] at h2; subst h2
    simp only [enumV] at p2
    cases e : seqKV v with
    | none => rw [e] at p2; exact p2.elim
    | some ws =>
      rw [e] at p2
      obtain ⟨k, ys, rfl, na, ha, l, z⟩ := seqKV_rp e h1
      exact ⟨k, ys, rfl, ha, p2 M2 H2 .refl R2 _ (itOk_enum na ha l)⟩
theorem si_zip (hg : Gl X "zip") (hm : X.mg "zip" = none) (ha : PA X [e, e2] (tL G ds)) (hs : starEach [e, e2] X.env = (false, eval e X.env) :: starEach [e2] X.env) (hpl : (backTo pos (starEach [e2] X.env)).any (·.1) = false) :
    PI X (.Tuple elts kk tpos) (.Call (.Name "zip" p) [e, e2] [] pos) (tI G (iOf zipVs ds)) := (pi_zipK hg hm ha hs hpl).pv fun σ H R ⟨M, env, Rl, p⟩ => by
  refine Post.bindL Rl p fun vs e2 xs M2 H2 q x2 R2 r2 p2 => ?_
  simp only at p2
  match vs, r2, p2 with
  | [], _, p2 => exact p2.elim
  | [_], _, p2 => exact p2.elim
  | _ :: _ :: _ :: _, _, p2 => exact p2.elim
  | [v, w], r2, p2 =>
    rw [rpl_cons] at r2; obtain ⟨x, r, rfl, h1, r2⟩ := r2
    rw [rpl_cons] at r2; obtain ⟨y, r, rfl, h2, r2⟩ := r2
    rw [rpl_nil] at r2; subst r2
    simp only [zipVs] at p2
    cases e : seqKV v with
    | none => rw [e] at p2; exact p2.elim
    | some q =>
      cases e' : seqKV w with
      | none => rw [e, e'] at p2; exact p2.elim
      | some q' =>
        rw [e, e'] at p2
        obtain ⟨k, ys, rfl, na, ha, l, z⟩ := seqKV_rp e h1
        obtain ⟨k', ys', rfl, na', ha', l', z'⟩ := seqKV_rp e' h2
        exact ⟨k, k', ys, ys', rfl, ha, ha', p2 M2 H2 .refl R2 _ (itOk_zip na na' ha ha' l l')⟩
end
end PV

namespace PV
open PySem PySem.Spec PyProof.Rows L2

/-! ### a def's promise from its denotation -/
def env0 (n : Nat) (ws : List Val) : EnvD := ws.map Slot.frz ++ List.replicate (n - ws.length) .emp
def runF (N m : Nat) (d : SD) : Fn := fun ws => if ws.length = m then (match d (env0 N ws) with
  | .ok (.ret v o _) => .ok (v, o)
  | .ok (.nx _) => .ok (.non, false)
  | .exc c p => .exc c p
  | _ => .bad) else .bad
theorem env0_rel {K : PySem.W.Frag} {H : Hp} {P : AP} {N : List Str} {ws : List Val} {vs : List V} (pal : ∀ a, P a → H a ≠ none) (r : RpL K H P ws vs) : RelEnv K H P (fun _ => False) (L2.start N vs) (env0 N.length ws) := by
  have hl := r.length
  have e : or' P (fun _ => False) = P := by funext a; simp [or']
  refine ⟨?_, fun i t h => ?_, fun i j a v w h => ?_, fun a h => h.elim, pal, fun a _ h => h⟩
  · simp [env0, L2.start, hl]
  · unfold env0 at h
    by_cases hi : i < ws.length
    · rw [List.getElem?_append_left (by simpa using hi)] at h
      rw [List.getElem?_map] at h
      cases q : ws[i]? with
      | none => rw [q] at h; cases h
      | some w =>
        rw [q] at h; cases h
        obtain ⟨x, hx, rx⟩ := r.get q
        refine ⟨x, ?_, by rw [e]; exact rx⟩
        unfold L2.start
        rw [List.getElem?_append_left (by rw [List.length_map, hl]; exact hi), List.getElem?_map, hx]; rfl
    · rw [List.getElem?_append_right (by simpa using Nat.le_of_not_lt hi), List.getElem?_replicate] at h
      split at h <;> cases h
      trivial
  · exfalso
    unfold env0 at h
    by_cases hi : i < ws.length
    · rw [List.getElem?_append_left (by simpa using hi), List.getElem?_map] at h
      cases q : ws[i]? with
      | none => rw [q] at h; cases h
      | some w => rw [q] at h; cases h
    · rw [List.getElem?_append_right (by simpa using Nat.le_of_not_lt hi), List.getElem?_replicate] at h
      split at h <;> cases h
section
variable {P : Program} {w : World} {K : PySem.W.Frag} {mg : Str → Option Value} {base : Heap}
/-- Ext from nothing of ours -/
theorem Ext.same0 {H H' : Hp} {M' : AP} (x : Ext (fun _ => False) H M' H') : ∀ a t, H a = some t → H' a = some t := fun a t e => x.keep a t e fun h => h
theorem ok_def {x qual : Str} {st : Stmt} {f : Addr} {fd : FuncData} {N ps : List Str} {k : Nat} {d : SD} (F : Fun K x qual st f fd) (S : FnScope N ps (defScope st))
    (hbody : ∀ (cdv : Value) (A : Around) (outer : List Env) (s : Shared) (H : Hp) (E : XK) (PP : AP), Room k (A.deeper (envOfC qual (defScope st) s.heap.objs.size f cdv)) →
      PSs (cxOf (L2.CX P w) P w K mg base N qual (defScope st) f cdv A outer s H E) (defBody st) (tS ⟨K, mg, PP, E⟩ none d)) : FnOk P w K mg base (L2.CX P w) (k + 1) f fd ps (spP K mg ps.length (runF N.length ps.length d)) := by
  refine F.okX S (fun vs H Q E h => h.1) fun cdv A outer s H vs Q E hr h => ?_
  obtain ⟨hl, PP, ws, pal, r, q⟩ := h
  refine ⟨_, hbody cdv A outer s H E PP hr, fun _ => False, env0 N.length ws, env0_rel pal r, (fun _ _ z => nomatch z), ?_⟩
  unfold runF at q
  have hw : ws.length = ps.length := by rw [← hl]; exact r.length.symm
  rw [if_pos hw] at q
  have e0 : ∀ M : AP, (∀ a, M a → False) → or' PP M = PP := fun M h => by funext a; simp only [or', eq_iff_iff]; exact ⟨fun z => z.elim id fun m => (h a m).elim, .inl⟩
  cases e : d (env0 N.length ws) with
  | ok z =>
    rw [e] at q
    intro M' H' ex
    have sm := ex.same0
    cases z with
    | nx env => exact fun σ R hp => q .non H' sm (by show Rp _ _ _ _ _; exact rp_non.mpr rfl)
    | brk env => exact q.elim
    | cnt env => exact q.elim
    | ret v o env =>
      intro σ x R hp rx
      refine q x H' sm ?_
      cases o with
      | false => exact Rp.stay (Stay.less fun a h => .inl h) _ _ rx
      | true =>
        obtain ⟨a, rfl, ma, ow, _⟩ := rx
        have nn : H a = none := (ex.mem a ma).elim (fun h => h.elim) id
        exact ⟨a, rfl, nn, ow.stay (Stay.less fun b h => h.elim .inl fun e => .inr (by subst e; exact ma)) rfl⟩
  | exc c p =>
    rw [e] at q
    intro cls dd M' H' ex xo
    refine q cls dd H' ex.same0 ?_
    obtain ⟨C, h1, h2, h3⟩ := xo
    refine ⟨C, h1, h2, ?_⟩
    cases p with
    | none => exact h3
    | some p =>
      obtain ⟨dd, y, e1, e2, e3, e4⟩ := h3
      exact ⟨dd, y, e1, e2, fun z => e3 (.inl z), Rp.stay (Stay.less fun a h => .inl h) _ _ e4⟩
  | bad => rw [e] at q; exact q.elim

def env0H (N : Nat) (h : Val) (ws : List Val) : EnvD := .own h :: (ws.map Slot.frz ++ List.replicate (N - (ws.length + 1)) .emp)
def runH (N m : Nat) (d : SD) : FnH := fun h ws => if ws.length + 1 = m then (match d (env0H N h ws) with
  | .ok (SR.ret v false env) => (match (env[0]? : Option Slot) with
    | some (Slot.own h') => .ok (v, h')
    | _ => .bad)
  | _ => .bad) else .bad
theorem env0H_rel {K : PySem.W.Frag} {H : Hp} {P : AP} {N : List Str} {a : Addr} {h : Val} {ws : List Val} {vs : List V} (pal : ∀ a, P a → H a ≠ none) (na : ¬ P a) (ow : OwnAt K H (or' P (· = a)) a h) (r : RpL K H (or' P (· = a)) ws vs) : RelEnv K H P (· = a) (L2.start N (.ref a :: vs)) (env0H N.length h ws) := by
  have hl := r.length
  have e1 : L2.start N (.ref a :: vs) = some (.ref a) :: (vs.map some ++ List.replicate (N.length - (ws.length + 1)) none) := by
    simp [L2.start, hl]
  have own0 : ∀ (i : Nat) (v : Val), (env0H N.length h ws)[i]? = some (.own v) → i = 0 := fun i v q => by
    cases i with
    | zero => rfl
    | succ i =>
      exfalso
      unfold env0H at q
      rw [List.getElem?_cons_succ] at q
      by_cases hi : i < ws.length
      · rw [List.getElem?_append_left (by simpa using hi), List.getElem?_map] at q
        cases q' : ws[i]? with
        | none => rw [q'] at q; cases q
        | some w => rw [q'] at q; cases q
      · rw [List.getElem?_append_right (by simpa using Nat.le_of_not_lt hi), List.getElem?_replicate] at q
        split at q <;> cases q
  refine ⟨?_, fun i t q => ?_, fun i j b v w q1 q2 _ _ => by rw [own0 i v q1, own0 j w q2], fun b m => by subst m; exact ow.ne, pal, fun b p m => by subst m; exact na p⟩
  · rw [e1]; simp [env0H, hl]
  · cases i with
    | zero => cases q; exact ⟨a, by rw [e1]; rfl, rfl, ow⟩
    | succ i =>
      unfold env0H at q
      rw [List.getElem?_cons_succ] at q
      by_cases hi : i < ws.length
      · rw [List.getElem?_append_left (by simpa using hi)] at q
        rw [List.getElem?_map] at q
        cases q' : ws[i]? with
        | none => rw [q'] at q; cases q
        | some w =>
          rw [q'] at q; cases q
          obtain ⟨x, hx, rx⟩ := r.get q'
          refine ⟨x, ?_, rx⟩
          rw [e1, List.getElem?_cons_succ, List.getElem?_append_left (by rw [List.length_map, hl]; exact hi), List.getElem?_map, hx]; rfl
      · rw [List.getElem?_append_right (by simpa using Nat.le_of_not_lt hi), List.getElem?_replicate] at q
        split at q <;> cases q
        trivial
theorem ok_defH {x qual : Str} {st : Stmt} {f : Addr} {fd : FuncData} {N ps : List Str} {k : Nat} {d : SD} (F : Fun K x qual st f fd) (S : FnScope N ps (defScope st))
    (hbody : ∀ (cdv : Value) (A : Around) (outer : List Env) (s : Shared) (H : Hp) (E : XK) (PP : AP) (a : Addr), Room k (A.deeper (envOfC qual (defScope st) s.heap.objs.size f cdv)) →
      PSs (cxOf (L2.CX P w) P w K mg base N qual (defScope st) f cdv A outer s H E) (defBody st) (tS ⟨K, mg, PP, E⟩ (some (0, .ref a)) d)) : FnOk P w K mg base (L2.CX P w) (k + 1) f fd ps (spH K ps.length (runH N.length ps.length d)) := by
  refine F.okX S (fun vs H Q E h => h.1) fun cdv A outer s H vs Q E hr h => ?_
  obtain ⟨hl, PP, a, hh, ws, xs, rfl, pal, na, ow, r, q⟩ := h
  refine ⟨_, hbody cdv A outer s H E PP a hr, (· = a), env0H N.length hh ws, env0H_rel pal na ow r, fun i x z => by cases z; rfl, ?_⟩
  unfold runH at q
  have hw : ws.length + 1 = ps.length := by rw [← hl, List.length_cons, r.length]
  rw [if_pos hw] at q
  cases e : d (env0H N.length hh ws) with
  | ok z =>
    rw [e] at q
    intro M' H' ex
    cases z with
    | nx env => exact q.elim
    | brk env => exact q.elim
    | cnt env => exact q.elim
    | ret v o env =>
      cases o with
      | true => exact q.elim
      | false =>
        intro σ x R hp rx
        simp only at q
        cases e0 : env[0]? with
        | none => rw [e0] at q; exact q.elim
        | some t =>
          cases t with
          | emp => rw [e0] at q; exact q.elim
          | frz u => rw [e0] at q; exact q.elim
          | own h' =>
            rw [e0] at q
            obtain ⟨a', ea, ma, ow'⟩ := R.slot 0 _ e0
            have : a' = a := by
              have := hp 0 (.ref a) rfl
              rw [this] at ea; cases ea; rfl
            subst this
            have st : Stay H' (or' PP M') H' (or' PP (· = a')) := Stay.less fun b h => h.elim .inl fun e => .inr (by subst e; exact ma)
            exact q x H' (fun b t nb eb => ex.keep b t eb nb) (ow'.stay st rfl) (Rp.stay st _ _ rx)
  | exc c p => rw [e] at q; exact q.elim
  | bad => rw [e] at q; exact q.elim
end
end PV

namespace PV
open PySem PySem.Spec PyProof.Rows L2
open PySem.W (minD maxD dataLt)

/-! ### defs that are known -/
structure Good (P : Program) (w : World) (K : PySem.W.Frag) (mg : Str → Option Value) (base : Heap) (x : Str) (k : Nat) (ps : List Str) (F : Fn) : Prop where
  ex : ∃ f fd, FnOk P w K mg base (L2.CX P w) k f fd ps (spP K mg ps.length F) ∧ mg x = some (.ref f) ∧ PySem.W.keepIn K (.ref f) = true ∧ Binds K fd ps []
structure GoodH (P : Program) (w : World) (K : PySem.W.Frag) (mg : Str → Option Value) (base : Heap) (x : Str) (k : Nat) (ps : List Str) (F : FnH) : Prop where
  ex : ∃ f fd, FnOk P w K mg base (L2.CX P w) k f fd ps (spH K ps.length F) ∧ mg x = some (.ref f) ∧ PySem.W.keepIn K (.ref f) = true ∧ Binds K fd ps []

section
variable {X : Cx} {G : Cfg} {pin : Pin} {x : Str} {pos p pos' : Pos} {e e1 e2 e3 a b c : Expr} {es rest : List Expr} {d da db dc : ED} {ds : List ED} {k k' n : Nat} {ps : List Str}
theorem v_call {F : Fn} (g : Good X.prog X.w X.K X.mg X.base x k ps F) (hr : Room k' X.A) (hx : Passes (L2.CX X.prog X.w) X G.E) (ha : PA X (e :: es) (tL G ds)) (le : k ≤ k' := by decide) (hK : X.K = G.K := by rfl) (hm : X.mg = G.mg := by rfl)
    (hn : ds.length = ps.length := by rfl) (hg : Gl X x := by rfl) (hdb : (x == ("__debug__" : Str)) = false := by decide) (he : starEach (e :: es) X.env = (false, eval e X.env) :: starEach es X.env := by rfl) (hpl : (backTo pos (starEach es X.env)).any (·.1) = false := by rfl) :
    PE X (.Call (.Name x p) (e :: es) [] pos) (tE G (dCB F ds)) := by
  obtain ⟨f, fd, h1, h2, h3, h4⟩ := g.ex
  exact se_call (by rw [← hK, ← hm]; exact h1) (hr.mono le) hg h2 h3 h4 hx ha hn hdb he hpl
theorem v_callH {F : FnH} {i : Nat} (g : GoodH X.prog X.w X.K X.mg X.base x k ps F) (hr : Room k' X.A) (hx : Passes (L2.CX X.prog X.w) X G.E) (h0 : PE X e (tVar i)) (ha : PA X es (tL G ds)) (le : k ≤ k' := by decide) (hK : X.K = G.K := by rfl)
    (hn : ds.length + 1 = ps.length := by rfl) (hg : Gl X x := by rfl) (hdb : (x == ("__debug__" : Str)) = false := by decide) (he : starEach (e :: es) X.env = (false, eval e X.env) :: starEach es X.env := by rfl) (hpl : (backTo pos (starEach es X.env)).any (·.1) = false := by rfl) :
    PE X (.Call (.Name x p) (e :: es) [] pos) (tE G (dCallH F i ds)) := by
  obtain ⟨f, fd, h1, h2, h3, h4⟩ := g.ex
  exact se_callH (by rw [← hK]; exact h1) (hr.mono le) hg h2 h3 h4 hx h0 ha hn hdb he hpl
theorem pass_top {P : Program} {w : World} {K : PySem.W.Frag} {mg : Str → Option Value} {base : Heap} {N : List Str} {qual : Str} {scope : Scope} {f : Addr} {cd : Value} {A : Around} {outer : List Env} {s : Shared} {H : Hp} {E : XK} :
    Passes (L2.CX P w) (cxOf (L2.CX P w) P w K mg base N qual scope f cd A outer s H E) E := passes_call (takes_of rfl rfl rfl rfl) fun _ _ _ _ h => h

/-! ### names -/
theorem v_var (i : Nat) (hN : X.N[i]? = some x := by rfl) (hv : Vis X.env.scope x := by first | exact Or.inl rfl | exact Or.inr (Or.inl rfl) | exact Or.inr (Or.inr rfl)) (hd : (x == ("__debug__" : Str)) = false := by decide)
    (hcd : (x == ("__classdict__" : Str)) = false := by decide) : PE X (.Name x pos) (tE G (dVar i)) := se_var hN hv hd hcd
theorem v_ty {T : String} (hm : X.mg x = none) (hv : bootBuiltins x = some (.type T)) (hg : Gl X x := by rfl) (hn : x ≠ "__name__" := by decide) (hd : (x == ("__debug__" : Str)) = false := by decide) : PE X (.Name x pos) (tE G (dC (.ty T))) :=
  se_c (pe_bltn (v := .ty T) hg hm hv rfl hn hd) fun _ _ => rp_ty.mpr rfl

/-- .. an argument -/
theorem v_cons (hd : PE X e (tE G d)) (hr : PA X es (tL G ds)) (hs : starEach (e :: es) X.env = (false, eval e X.env) :: starEach es X.env := by rfl) : PA X (e :: es) (tL G (d :: ds)) := sa_cons hd hr hs
/-! ### comparisons -/
theorem v_cmp {op : CmpOp} {r : R2} {f : Val → Val → Res (Val × Bool)} (ho : OpR X (compareOp op) r) (hs : OpS G.K r f) (ha : PE X a (tE G da)) (hb : PE X b (tE G db)) (hm : behindInMarks op b = false := by rfl) : PE X (.Compare a [op] [b] pos) (tE G (dBin f da db)) := se_cmp ho hs ha hb hm
theorem v_cmpS {op : CmpOp} {r : R2} {f : Val → Val → Res (Val × Bool)} {i : Nat} (ho : OpR X (compareOp op) r) (hs : OpSR2 G.K r f) (ha : PE X a (tE G da)) (hb : PE X b (tVar i)) (hm : behindInMarks op b = false := by rfl) : PE X (.Compare a [op] [b] pos) (tE G (dRS f da i)) := se_cmpS ho hs ha hb hm
theorem vt_cmp {op : CmpOp} {r : R2} {f : Val → Val → Res (Val × Bool)} (ho : OpR X (compareOp op) r) (hs : OpS G.K r f) (ha : PE X a (tE G da)) (hb : PE X b (tE G db)) (hm : behindInMarks op b = false := by rfl) : PT X (.Compare a [op] [b] pos) (tT G (dTB (dBin f da db))) := st_cmp ho hs ha hb hm
theorem vt_cmpS {op : CmpOp} {r : R2} {f : Val → Val → Res (Val × Bool)} {i : Nat} (ho : OpR X (compareOp op) r) (hs : OpSR2 G.K r f) (ha : PE X a (tE G da)) (hb : PE X b (tVar i)) (hm : behindInMarks op b = false := by rfl) : PT X (.Compare a [op] [b] pos) (tT G (dTB (dRS f da i))) := st_cmpS ho hs ha hb hm
theorem vt_true (ha : PE X a (tE G da)) (hK : X.K = G.K := by rfl) (he : ∀ whole, isTrue a X.env whole = (do let v ← whole; standAt a.pos; holding [v] (truthy v)) := by intro _; rfl) : PT X a (tT G (dTru da)) := st_truth ha hK he
theorem vt_trueS {i : Nat} (ha : PE X a (tVar i)) (hK : X.K = G.K := by rfl) (he : ∀ whole, isTrue a X.env whole = (do let v ← whole; standAt a.pos; holding [v] (truthy v)) := by intro _; rfl) : PT X a (tT G (dTruS i)) := st_truthS ha hK he
/-! ### built-in calls -/
theorem v_blt {id : String} {r : List V → Hp → VK → Prop} {f : List Val → Res (Val × Bool)} (hc : CallR X (.builtin id) r) (hs : OpSL G.K r f) (hm : X.mg x = none) (hv : bootBuiltins x = some (.builtin id)) (ha : PA X (e :: es) (tL G ds)) (hg : Gl X x := by rfl) (hn : x ≠ "__name__" := by decide) (hdb : (x == ("__debug__" : Str)) = false := by decide)
    (he : starEach (e :: es) X.env = (false, eval e X.env) :: starEach es X.env := by rfl) (hpl : (backTo pos (starEach es X.env)).any (·.1) = false := by rfl) : PE X (.Call (.Name x p) (e :: es) [] pos) (tE G (dCB f ds)) := (pe_callB hc hg hm hv ha hn hdb he hpl).pv fun σ H Q h => tE_CB hs h
theorem v_bltS {id : String} {r : List V → Hp → VK → Prop} {f : Val → Res (Val × Bool)} {i : Nat} (hc : CallR X (.builtin id) r) (hs : OpSLR G.K r f) (hm : X.mg x = none) (hv : bootBuiltins x = some (.builtin id)) (ha : PE X e (tVar i)) (hg : Gl X x := by rfl) (hn : x ≠ "__name__" := by decide) (hdb : (x == ("__debug__" : Str)) = false := by decide)
    (he : starEach [e] X.env = (false, eval e X.env) :: starEach [] X.env := by rfl) (hpl : (backTo pos (starEach [] X.env)).any (·.1) = false := by rfl) : PE X (.Call (.Name x p) [e] [] pos) (tE G (dCBS f i)) := (pe_callB hc hg hm hv (pa_cons ha pa_nil he) hn hdb he hpl).pv fun σ H Q h => tE_CBS hs h
theorem v_bty {T : String} {r : List V → Hp → VK → Prop} {f : List Val → Res (Val × Bool)} (hc : CallR X (.type T) r) (hs : OpSL G.K r f) (hm : X.mg x = none) (hv : bootBuiltins x = some (.type T)) (ha : PA X (e :: es) (tL G ds)) (hg : Gl X x := by rfl) (hn : x ≠ "__name__" := by decide) (hdb : (x == ("__debug__" : Str)) = false := by decide)
    (he : starEach (e :: es) X.env = (false, eval e X.env) :: starEach es X.env := by rfl) (hpl : (backTo pos (starEach es X.env)).any (·.1) = false := by rfl) : PE X (.Call (.Name x p) (e :: es) [] pos) (tE G (dCB f ds)) := (pe_callTy hc hg hm hv ha hn hdb he hpl).pv fun σ H Q h => tE_CB hs h
theorem v_btyS {T : String} {r : List V → Hp → VK → Prop} {f : Val → Res (Val × Bool)} {i : Nat} (hc : CallR X (.type T) r) (hs : OpSLR G.K r f) (hm : X.mg x = none) (hv : bootBuiltins x = some (.type T)) (ha : PE X e (tVar i)) (hg : Gl X x := by rfl) (hn : x ≠ "__name__" := by decide) (hdb : (x == ("__debug__" : Str)) = false := by decide)
    (he : starEach [e] X.env = (false, eval e X.env) :: starEach [] X.env := by rfl) (hpl : (backTo pos (starEach [] X.env)).any (·.1) = false := by rfl) : PE X (.Call (.Name x p) [e] [] pos) (tE G (dCBS f i)) := (pe_callTy hc hg hm hv (pa_cons ha pa_nil he) hn hdb he hpl).pv fun σ H Q h => tE_CBS hs h
/-! ### subscripts -/
theorem v_ix (U : X.A.units + 70 < cLine) (ha : PE X a (tE G da)) (hb : PE X b (tE G db)) (hK : X.K = G.K := by rfl) (hs : PlainIx b := by exact fun _ _ => rfl) : PE X (.Subscript a b pos) (tE G (dBin oIx da db)) := se_ix (by omega) hK ha hb hs
theorem v_ixS {i : Nat} (U : X.A.units + 70 < cLine) (ha : PE X a (tVar i)) (hb : PE X b (tE G db)) (hK : X.K = G.K := by rfl) (hs : PlainIx b := by exact fun _ _ => rfl) : PE X (.Subscript a b pos) (tE G (dIxS i db)) := se_ixS (by omega) hK ha hb hs
theorem v_sl {lo hi : Option Expr} {dl dh : OD} {p2 : Pos} (he : PE X e (tE G d)) (hl : PO X lo (tO G dl)) (hh : PO X hi (tO G dh)) (hK : X.K = G.K := by rfl) : PE X (.Subscript e (.Slice lo hi none p2) pos) (tE G (dSl d dl dh)) := se_sl hK he hl hh
/-! ### displays -/
theorem v_tup {x1} (h : PA X es (tL G ds)) (hl : ds.length ≤ 1000 := by decide) : PE X (.Tuple es x1 pos) (tE G (dTup ds)) := se_tup h hl
theorem v_lst (h : PA X es (tL G ds)) (hl : ds.length ≤ 1000 := by decide) : PE X (.List es pos) (tE G (dLst ds)) := se_lst h hl
/-! ### comprehensions -/
theorem v_lc (own : List (Str × Nat)) {js : List Nat} {elt tg iter : Expr} {scope : Scope} {ws : List Nat} {it : ID} {g : GD} (hN : X.N.Nodup) (hi : PI X tg iter (tI G it))
    (htg : ∀ (s : Shared) (H : Hp) (C : Addr) (cl : List (Str × Addr)) (fp : List Addr) (P : PV.AP), PG (X.blk s H scope (compEnvC scope cl C X.env) fp) tg (tG (G.blk P) ws g))
    (helt : ∀ (s : Shared) (H : Hp) (C : Addr) (cl : List (Str × Addr)) (fp : List Addr) (P : PV.AP), PE (X.blk s H scope (compEnvC scope cl C X.env) fp) elt (tE (G.blk P) d))
    (hjs : own.map (·.2) = js := by rfl) (hc : X.calm = true := by rfl) (ok : blkC X.N X.env.scope scope own = true := by kernel_rfl) (sub : ∀ j ∈ ws, j ∈ js := by decide) (hs : ∀ x, foldedSetIterable iter X.env x = pure x := by intro _; rfl) :
    PE X (.ListComp elt [⟨tg, iter, [], 0⟩] scope pos) (tE G (dLc js it g dYes d)) := by
  subst hjs
  exact se_lc hc hN hi (blkOk_by ok) ⟨htg, .inl ⟨rfl, rfl⟩, helt, sub⟩ hs
theorem v_lcIf (own : List (Str × Nat)) {js : List Nat} {elt tg iter : Expr} {scope : Scope} {ws : List Nat} {it : ID} {g : GD} {t : TD} (hN : X.N.Nodup) (hi : PI X tg iter (tI G it))
    (htg : ∀ (s : Shared) (H : Hp) (C : Addr) (cl : List (Str × Addr)) (fp : List Addr) (P : PV.AP), PG (X.blk s H scope (compEnvC scope cl C X.env) fp) tg (tG (G.blk P) ws g))
    (hif : ∀ (s : Shared) (H : Hp) (C : Addr) (cl : List (Str × Addr)) (fp : List Addr) (P : PV.AP), PT (X.blk s H scope (compEnvC scope cl C X.env) fp) c (tT (G.blk P) t))
    (helt : ∀ (s : Shared) (H : Hp) (C : Addr) (cl : List (Str × Addr)) (fp : List Addr) (P : PV.AP), PE (X.blk s H scope (compEnvC scope cl C X.env) fp) elt (tE (G.blk P) d))
    (hjs : own.map (·.2) = js := by rfl) (hc : X.calm = true := by rfl) (ok : blkC X.N X.env.scope scope own = true := by kernel_rfl) (sub : ∀ j ∈ ws, j ∈ js := by decide) (hs : ∀ x, foldedSetIterable iter X.env x = pure x := by intro _; rfl) :
    PE X (.ListComp elt [⟨tg, iter, [c], 0⟩] scope pos) (tE G (dLc js it g t d)) := by
  subst hjs
  exact se_lc hc hN hi (blkOk_by ok) ⟨htg, .inr ⟨c, rfl, hif⟩, helt, sub⟩ hs
theorem v_setLc {i : Nat} {y : Str} {py spos : Pos} (own : List (Str × Nat)) {js : List Nat} {elt tg iter : Expr} {scope : Scope} {ws : List Nat} {it : ID} {g : GD} (hN : X.N.Nodup) (hi : PI X tg iter (tI G it))
    (htg : ∀ (s : Shared) (H : Hp) (C : Addr) (cl : List (Str × Addr)) (fp : List Addr) (P : PV.AP), PG (X.blk s H scope (compEnvC scope cl C X.env) fp) tg (tG (G.blk P) ws g))
    (helt : ∀ (s : Shared) (H : Hp) (C : Addr) (cl : List (Str × Addr)) (fp : List Addr) (P : PV.AP), PE (X.blk s H scope (compEnvC scope cl C X.env) fp) elt (tE (G.blk P) d))
    (hy : X.N[i]? = some y := by rfl) (hyl : X.env.scope.names.lookup y = some .local := by rfl)
    (hsw : swapsWith (.ListComp elt [⟨tg, iter, [], 0⟩] scope pos) (some (.Name y py)) spos.line X.env = pure true := by rfl)
    (hjs : own.map (·.2) = js := by rfl) (hc : X.calm = true := by rfl) (ok : blkC X.N X.env.scope scope own = true := by kernel_rfl) (sub : ∀ j ∈ ws, j ∈ js := by decide) (hs : ∀ x, foldedSetIterable iter X.env x = pure x := by intro _; rfl)
    (np : NoPins pin [i] := by intro j x z; cases z <;> decide) (np' : NoPin pin i := by intro j x z; cases z <;> decide) :
    PS X (.Assign [.Name y py] (.ListComp elt [⟨tg, iter, [], 0⟩] scope pos) spos) (tS G pin (sOwn (dLc js it g dYes d) i)) := by
  subst hjs
  exact ss_setLc (o := true) hc hN hy hyl hsw hi (blkOk_by ok) ⟨htg, .inl ⟨rfl, rfl⟩, helt, sub⟩ hs np np'
theorem v_setLcIf {i : Nat} {y : Str} {py spos : Pos} (own : List (Str × Nat)) {js : List Nat} {elt tg iter : Expr} {scope : Scope} {ws : List Nat} {it : ID} {g : GD} {t : TD} (hN : X.N.Nodup) (hi : PI X tg iter (tI G it))
    (htg : ∀ (s : Shared) (H : Hp) (C : Addr) (cl : List (Str × Addr)) (fp : List Addr) (P : PV.AP), PG (X.blk s H scope (compEnvC scope cl C X.env) fp) tg (tG (G.blk P) ws g))
    (hif : ∀ (s : Shared) (H : Hp) (C : Addr) (cl : List (Str × Addr)) (fp : List Addr) (P : PV.AP), PT (X.blk s H scope (compEnvC scope cl C X.env) fp) c (tT (G.blk P) t))
    (helt : ∀ (s : Shared) (H : Hp) (C : Addr) (cl : List (Str × Addr)) (fp : List Addr) (P : PV.AP), PE (X.blk s H scope (compEnvC scope cl C X.env) fp) elt (tE (G.blk P) d))
    (hy : X.N[i]? = some y := by rfl) (hyl : X.env.scope.names.lookup y = some .local := by rfl)
    (hsw : swapsWith (.ListComp elt [⟨tg, iter, [c], 0⟩] scope pos) (some (.Name y py)) spos.line X.env = pure true := by rfl)
    (hjs : own.map (·.2) = js := by rfl) (hc : X.calm = true := by rfl) (ok : blkC X.N X.env.scope scope own = true := by kernel_rfl) (sub : ∀ j ∈ ws, j ∈ js := by decide) (hs : ∀ x, foldedSetIterable iter X.env x = pure x := by intro _; rfl)
    (np : NoPins pin [i] := by intro j x z; cases z <;> decide) (np' : NoPin pin i := by intro j x z; cases z <;> decide) :
    PS X (.Assign [.Name y py] (.ListComp elt [⟨tg, iter, [c], 0⟩] scope pos) spos) (tS G pin (sOwn (dLc js it g t d) i)) := by
  subst hjs
  exact ss_setLc (o := true) hc hN hy hyl hsw hi (blkOk_by ok) ⟨htg, .inr ⟨c, rfl, hif⟩, helt, sub⟩ hs np np'
/-! ### walks -/
variable {tg : Expr} {elts : List Expr} {kk : Nat} {tpos : Pos}
theorem v_ival (he : PE X e (tE G d)) (hK : X.K = G.K := by rfl) : PI X tg e (tI G (iVal d)) := si_val hK he
theorem v_rng1 (hm : X.mg "range" = none) (ha : PA X [e] (tL G ds)) (hn : ds.length = 1 := by rfl) (hg : Gl X "range" := by rfl) (hs : starEach [e] X.env = [(false, eval e X.env)] := by rfl) : PI X tg (.Call (.Name "range" p) [e] [] pos) (tI G (iRng ds)) := si_rng1 hg hm ha hn hs
theorem v_rng2 (hm : X.mg "range" = none) (ha : PA X [e, e2] (tL G ds)) (hn : ds.length = 2 := by rfl) (hg : Gl X "range" := by rfl) (hs : starEach [e, e2] X.env = [(false, eval e X.env), (false, eval e2 X.env)] := by rfl) (hs2 : starEach [e2] X.env = [(false, eval e2 X.env)] := by rfl) : PI X tg (.Call (.Name "range" p) [e, e2] [] pos) (tI G (iRng ds)) := si_rng2 hg hm ha hn hs hs2
theorem v_rng3 (hm : X.mg "range" = none) (ha : PA X [e, e2, e3] (tL G ds)) (hn : ds.length = 3 := by rfl) (hg : Gl X "range" := by rfl) (hs : starEach [e, e2, e3] X.env = (false, eval e X.env) :: starEach [e2, e3] X.env := by rfl) (hpl : (backTo pos (starEach [e2, e3] X.env)).any (·.1) = false := by rfl) : PI X tg (.Call (.Name "range" p) [e, e2, e3] [] pos) (tI G (iRng ds)) := si_rng3 hg hm ha hn hs hpl
theorem v_enum (hm : X.mg "enumerate" = none) (ha : PA X [e] (tL G ds)) (hg : Gl X "enumerate" := by rfl) (hs : starEach [e] X.env = [(false, eval e X.env)] := by rfl) : PI X (.Tuple elts kk tpos) (.Call (.Name "enumerate" p) [e] [] pos) (tI G (iOf enumV ds)) := si_enum hg hm ha hs
theorem v_zip (hm : X.mg "zip" = none) (ha : PA X [e, e2] (tL G ds)) (hg : Gl X "zip" := by rfl) (hs : starEach [e, e2] X.env = (false, eval e X.env) :: starEach [e2] X.env := by rfl) (hpl : (backTo pos (starEach [e2] X.env)).any (·.1) = false := by rfl) : PI X (.Tuple elts kk tpos) (.Call (.Name "zip" p) [e, e2] [] pos) (tI G (iOf zipVs ds)) := si_zip hg hm ha hs hpl
/-! ### targets -/
theorem g_nm (i : Nat) (hN : X.N.Nodup) (hi : X.N[i]? = some x := by rfl) (hx : Loc X.env.scope x := by first | exact Or.inl rfl | exact Or.inr rfl) (hf : X.fn x = true ∨ X.env.scope.names.lookup x = some .local := by first | exact Or.inl rfl | exact Or.inr rfl) : PG X (.Name x pos) (tG G [i] (gN i)) := sg_name hN hi hx hf
theorem g_cons {w1 w2 : List Nat} {d : GD} {ds : GDs} (h1 : PG X e (tG G w1 d)) (h2 : PGs X es (tGs G w2 ds)) (hs : (assignEach (e :: es) X.env).map (·.2) = assign e X.env :: (assignEach es X.env).map (·.2) := by rfl) : PGs X (e :: es) (tGs G (w1 ++ w2) (gsCons d ds)) := sgs_cons h1 h2 hs
theorem g_tup {ws : List Nat} {k n : Nat} {ds : GDs} (h : PGs X es (tGs G ws ds)) (hc : X.calm = true := by rfl) (hK : X.K = G.K := by rfl) (hn : (assignEach es X.env).length = n := by rfl) (hst : (assignEach es X.env).findIdx? (·.1) = none := by rfl) : PG X (.Tuple es k pos) (tG G ws (gT n ds)) := sg_tup hc hK h hn hst
/-! ### statements -/
theorem v_expr (he : PE X e (tE G d)) (hs : swapsWith e none pos.line X.env = pure false := by rfl) : PS X (.Expr e pos) (tS G pin (sExpr d)) := ss_expr he hs
theorem v_set (i : Nat) (hN : X.N.Nodup) (he : PE X e (tE G d)) (hi : X.N[i]? = some x := by rfl) (hx : Loc X.env.scope x := by first | exact Or.inl rfl | exact Or.inr rfl) (hf : X.fn x = true ∨ X.env.scope.names.lookup x = some .local := by first | exact Or.inl rfl | exact Or.inr rfl)
    (np : NoPin pin i := by intro j x z; cases z <;> decide) (hs : swapsWith e (some (.Name x pos')) pos.line X.env = pure false := by rfl) : PS X (.Assign [.Name x pos'] e pos) (tS G pin (sOwn d i)) := ss_own hN hi hx hf np he hs
theorem v_asg {d : ED} {g : GD} {ws : List Nat} (he : PE X e (tE G d)) (hg : PG X tg (tG G ws g)) (np : NoPins pin ws := by intro j x z; cases z <;> decide) (hs : swapsWithSole [tg] e pos.line X.env = pure false := by rfl) (hw : swappedStores [tg] e X.env = pure none := by rfl) (h1 : (assignEach [tg] X.env).map (·.2) = [assign tg X.env] := by rfl) :
    PS X (.Assign [tg] e pos) (tS G pin (sAsg d g)) := ss_asg np he hg hs hw h1
theorem v_aug {op : Operator} {g : Int → Int → Int} (i : Nat) (hN : X.N.Nodup) (ho : PIp X op (ipI g)) (he : PE X e (tE G d)) (hi : X.N[i]? = some x := by rfl) (hx : Loc X.env.scope x := by first | exact Or.inl rfl | exact Or.inr rfl) (hf : X.fn x = true ∨ X.env.scope.names.lookup x = some .local := by first | exact Or.inl rfl | exact Or.inr rfl)
    (np : NoPin pin i := by intro j x z; cases z <;> decide) : PS X (.AugAssign (.Name x pos') op e pos) (tS G pin (sAug i g d)) := ss_aug hN hi hx hf np he ho
theorem v_for {it : ID} {g : GD} {bd : SD} {body : List Stmt} {ws : List Nat} (hp : PassesOwn (model X.prog X.w) X.A X.env X.xe) (hi : PI X tg e (tI G it)) (hg : PG X tg (tG G ws g)) (hb : PSs X body (tS G pin bd)) (np : NoPins pin ws := by intro j x z; cases z <;> decide) (hc : X.calm = true := by rfl) (hs : ∀ x, foldedSetIterable e X.env x = pure x := by intro _; rfl) :
    PS X (.For tg e body [] pos) (tS G pin (sFor it g bd)) := (ps_for hp hc hi hg hb hs).pv (tS_for np)
theorem v_setIx {j : Nat} {o i : Expr} {di dv : ED} (U : X.A.units + 70 < cLine) (ho : PE X o (tVar j)) (hi : PE X i (tE G di)) (hv : PE X e (tE G dv))
    (ha : ∀ v, assign (.Subscript o i pos') X.env v = (do
      let ov ← holding [v] (eval o X.env)
      let iv ← holding [v, ov] (eval i X.env)
      standAt pos'
      holding [v, ov, iv] (setItem ov iv v)
      release [v, ov, iv] []) := by intro _; rfl)
    (hs : swapsWithSole [.Subscript o i pos'] e pos.line X.env = pure false := by rfl) (hw : swappedStores [.Subscript o i pos'] e X.env = pure none := by rfl) (h1 : (assignEach [.Subscript o i pos'] X.env).map (·.2) = [assign (.Subscript o i pos') X.env] := by rfl) :
    PS X (.Assign [.Subscript o i pos'] e pos) (tS G pin (sSet j di dv)) := ss_set (by omega) ho hi hv ha hs hw h1
/-- a, b = x, y -/
def sPar (i j : Nat) (ds : List ED) : SD := fun env => dList ds env >>= fun r => match r.1 with
  | [v, w] => .ok (.nx ((r.2.set i (.frz v)).set j (.frz w)))
  | _ => .bad
theorem v_par {i j : Nat} {y : Str} {px py pt : Pos} {kt k2 pt2} (hN : X.N.Nodup) (ha : PA X [a, b] (tL G ds)) (hi : X.N[i]? = some x := by rfl) (hj : X.N[j]? = some y := by rfl) (hij : i ≠ j := by decide)
    (hx : X.env.scope.names.lookup x = some .local := by rfl) (hy : X.env.scope.names.lookup y = some .local := by rfl)
    (hw : swappedStores [.Tuple [.Name x px, .Name y py] kt pt] (.Tuple [a, b] k2 pt2) X.env = pure (some [x, y]) := by rfl)
    (hs : swapsWithSole [.Tuple [.Name x px, .Name y py] kt pt] (.Tuple [a, b] k2 pt2) pos.line X.env = pure false := by rfl) (hc : X.calm = true := by rfl) (np : NoPin pin i := by intro j x z; cases z <;> decide) (np' : NoPin pin j := by intro j x z; cases z <;> decide) :
    PS X (.Assign [.Tuple [.Name x px, .Name y py] kt pt] (.Tuple [a, b] k2 pt2) pos) (tS G pin (sPar i j ds)) := (ps_par hc hN hi hj hij hx hy ha hw hs).pv fun D σ H ⟨M, env, R, hp, p⟩ => by
  refine Post.bindL R p fun vs e2 xs M2 H2 q x2 R2 r2 p2 => ?_
  simp only at p2
  match vs, r2 with
  | [], _ => exact p2.elim
  | [_], _ => exact p2.elim
  | _ :: _ :: _ :: _, _ => exact p2.elim
  | [v, w], r2 =>
    rw [rpl_cons] at r2
    obtain ⟨x, r, rfl, h1, h2⟩ := r2
    rw [rpl_cons] at h2
    obtain ⟨y, r, rfl, h2, h3⟩ := h2
    rw [rpl_nil] at h3; subst h3
    exact ⟨x, y, rfl, p2.endN ((R2.bindF h1).bindF h2) ((hp.set np).set np')⟩
/-- a, b, c = x, y, z -/
def sPar3 (i j l : Nat) (ds : List ED) : SD := fun env => dList ds env >>= fun r => match r.1 with
  | [v, w, u] => .ok (.nx (((r.2.set i (.frz v)).set j (.frz w)).set l (.frz u)))
  | _ => .bad
theorem v_par3 {i j l : Nat} {y z : Str} {px py pz pt : Pos} {kt k2 pt2} (hN : X.N.Nodup) (ha : PA X [a, b, c] (tL G ds)) (hi : X.N[i]? = some x := by rfl) (hj : X.N[j]? = some y := by rfl) (hl : X.N[l]? = some z := by rfl) (hij : i ≠ j := by decide) (hil : i ≠ l := by decide) (hjl : j ≠ l := by decide)
    (hx : X.env.scope.names.lookup x = some .local := by rfl) (hy : X.env.scope.names.lookup y = some .local := by rfl) (hz : X.env.scope.names.lookup z = some .local := by rfl)
    (hw : swappedStores [.Tuple [.Name x px, .Name y py, .Name z pz] kt pt] (.Tuple [a, b, c] k2 pt2) X.env = pure (some [x, y, z]) := by rfl)
    (hs : swapsWithSole [.Tuple [.Name x px, .Name y py, .Name z pz] kt pt] (.Tuple [a, b, c] k2 pt2) pos.line X.env = pure false := by rfl) (hc : X.calm = true := by rfl) (np : NoPin pin i := by intro j x z; cases z <;> decide) (np' : NoPin pin j := by intro j x z; cases z <;> decide) (np2 : NoPin pin l := by intro j x z; cases z <;> decide) :
    PS X (.Assign [.Tuple [.Name x px, .Name y py, .Name z pz] kt pt] (.Tuple [a, b, c] k2 pt2) pos) (tS G pin (sPar3 i j l ds)) := (ps_par3 hc hN hi hj hl hij hil hjl hx hy hz ha hw hs).pv fun D σ H ⟨M, env, R, hp, p⟩ => by
  refine Post.bindL R p fun vs e2 xs M2 H2 q x2 R2 r2 p2 => ?_
  simp only at p2
  match vs, r2 with
  | [], _ => exact p2.elim
  | [_], _ => exact p2.elim
  | [_, _], _ => exact p2.elim
  | _ :: _ :: _ :: _ :: _, _ => exact p2.elim
  | [v, w, u], r2 =>
    rw [rpl_cons] at r2
    obtain ⟨x, r, rfl, h1, h2⟩ := r2
    rw [rpl_cons] at h2
    obtain ⟨y, r, rfl, h2, h3⟩ := h2
    rw [rpl_cons] at h3
    obtain ⟨z, r, rfl, h3, h4⟩ := h3
    rw [rpl_nil] at h4; subst h4
    exact ⟨x, y, z, rfl, p2.endN (((R2.bindF h1).bindF h2).bindF h3) (((hp.set np).set np').set np2)⟩
theorem v_while (n : Nat) {t : TD} {bd : SD} {body : List Stmt} (hp : PassesOwn (model X.prog X.w) X.A X.env X.xe) (ht : PT X c (tT G t)) (hb : PSs X body (tS G pin bd)) : PS X (.While c body [] pos) (tS G pin (sWhile n t bd)) := (ps_while hp ht hb).pv tS_while
theorem own_top {P : Program} {w : World} {K : PySem.W.Frag} {mg : Str → Option Value} {base : Heap} {N : List Str} {qual : Str} {scope : Scope} {f : Addr} {cd : Value} {A : Around} {outer : List Env} {s : Shared} {H : Hp} {E : XK} :
    PassesOwn (model P w) (cxOf (L2.CX P w) P w K mg base N qual scope f cd A outer s H E).A (cxOf (L2.CX P w) P w K mg base N qual scope f cd A outer s H E).env (cxOf (L2.CX P w) P w K mg base N qual scope f cd A outer s H E).xe := passes_of (X := cxOf (L2.CX P w) P w K mg base N qual scope f cd A outer s H E) rfl
/-- what is not looked at -/
def sNo : SD := fun _ => .bad
theorem v_no {st : Stmt} : PS X st (tS G pin sNo) := ps_never.pv fun D σ H ⟨M, env, R, hp, p⟩ => p.elim
def dNo : ED := fun _ => .bad
theorem v_noE : PE X e (tE G dNo) := ⟨fun pins s σ H Q I ⟨M, env, R, p⟩ => p.elim⟩
theorem v_app {j : Nat} {o : Expr} {apos : Pos} (ho : PE X o (tVar j)) (he : PE X e (tE G d))
    (hbase : attributeBase o "append" X.env (eval o X.env) = eval o X.env := by rfl)
    (hfew : ((backTo pos (starEach [e] X.env)).all (fun x => !x.1) && (backToKw pos (keywordEach [] X.env)).all (fun x => x.1.isSome)
      && decide ([e].length + ([] : List Keyword).length + (if ([] : List Keyword).isEmpty then 0 else 1) < 30)) = true := by rfl)
    (hline : (apos.endLine == pos.line) = true := by rfl) (hs : starEach [e] X.env = (false, eval e X.env) :: starEach [] X.env := by rfl) (hplain : (backTo pos (starEach [] X.env)).any (·.1) = false := by rfl) :
    PE X (.Call (.Attribute o "append" apos) [e] [] pos) (tE G (dApp j d)) :=
  se_app ho he (fun {to t} h1 h2 => pe_bm PySem.F.plainAttrs_list PySem.F.slot_list_append PySem.F.type_list_append mt_append h1 h2 hbase hfew hline hs hplain) hs
theorem v_ext {j : Nat} {o : Expr} {apos : Pos} (ho : PE X o (tVar j)) (he : PE X e (tE G d))
    (hbase : attributeBase o "extend" X.env (eval o X.env) = eval o X.env := by rfl)
    (hfew : ((backTo pos (starEach [e] X.env)).all (fun x => !x.1) && (backToKw pos (keywordEach [] X.env)).all (fun x => x.1.isSome)
      && decide ([e].length + ([] : List Keyword).length + (if ([] : List Keyword).isEmpty then 0 else 1) < 30)) = true := by rfl)
    (hline : (apos.endLine == pos.line) = true := by rfl) (hs : starEach [e] X.env = (false, eval e X.env) :: starEach [] X.env := by rfl) (hplain : (backTo pos (starEach [] X.env)).any (·.1) = false := by rfl) :
    PE X (.Call (.Attribute o "extend" apos) [e] [] pos) (tE G (dExt j d)) :=
  se_ext ho he (fun {to t} h1 h2 => pe_bm PySem.F.plainAttrs_list PySem.F.slot_list_extend PySem.F.type_list_extend mt_extend h1 h2 hbase hfew hline hs hplain) hs
theorem v_pop {j : Nat} {o : Expr} {apos : Pos} (ho : PE X o (tVar j)) (hbase : attributeBase o "pop" X.env (eval o X.env) = eval o X.env := by rfl) (hline : (apos.endLine == pos.line) = true := by rfl) : PE X (.Call (.Attribute o "pop" apos) [] [] pos) (tE G (dPop j)) :=
  se_pop ho fun {to} h1 => pe_bm0 PySem.F.plainAttrs_list PySem.F.slot_list_pop PySem.F.type_list_pop mt_pop h1 hbase hline
end
end PV

namespace PV
open PySem PySem.Spec PyProof.Rows L2
open PySem.W (minD maxD dataLt)
theorem u64 {A : Around} (U : A.units + 70 < cLine) : A.units + 64 < cLine := by omega
theorem u65 {A : Around} (U : A.units + 70 < cLine) : A.units + 65 < cLine := by omega
theorem u_of {A : Around} {k : Nat} (h : Room k A) : A.units + 70 < cLine := by have := h.un; omega
theorem bt_len : bootBuiltins "len" = some (.builtin "len") := by decide +kernel
theorem bt_sum : bootBuiltins "sum" = some (.builtin "sum") := by decide +kernel
theorem bt_min : bootBuiltins "min" = some (.builtin "min") := by decide +kernel
theorem bt_max : bootBuiltins "max" = some (.builtin "max") := by decide +kernel
theorem bt_sorted : bootBuiltins "sorted" = some (.builtin "sorted") := by decide +kernel
theorem bt_all : bootBuiltins "all" = some (.builtin "all") := by decide +kernel
theorem bt_any : bootBuiltins "any" = some (.builtin "any") := by decide +kernel
theorem bt_abs : bootBuiltins "abs" = some (.builtin "abs") := by decide +kernel
theorem bt_isinstance : bootBuiltins "isinstance" = some (.builtin "isinstance") := by decide +kernel
theorem bt_list : bootBuiltins "list" = some (.type "list") := by decide +kernel
theorem bt_tuple : bootBuiltins "tuple" = some (.type "tuple") := by decide +kernel
theorem bt_int : bootBuiltins "int" = some (.type "int") := by decide +kernel
theorem bt_bool : bootBuiltins "bool" = some (.type "bool") := by decide +kernel
theorem bt_str : bootBuiltins "str" = some (.type "str") := by decide +kernel
theorem bt_dict : bootBuiltins "dict" = some (.type "dict") := by decide +kernel
theorem bt_range : bootBuiltins "range" = some (.type "range") := by decide +kernel
def oRange : List Val → Res (Val × Bool)
  | [.int i, .int j] => .ok (.rng i j, false)
  | _ => .bad
theorem s_range {K : PySem.W.Frag} : OpSL K (fun vs H Q => ∃ i j, vs = [V.int i, V.int j] ∧ ∀ p, H p = none → Q (.ref p) (upd H p (.rng i j))) oRange := fun H A vs xs al l => by
  unfold oRange
  split
  · rename_i i j
    rw [rpl_cons] at l
    obtain ⟨x, r, rfl, h1, h2⟩ := l
    rw [rpl_cons] at h2
    obtain ⟨y, r, rfl, h2, h3⟩ := h2
    rw [rp_int] at h1 h2; rw [rpl_nil] at h3; subst h1 h2 h3
    exact fun Q q => ⟨i, j, rfl, fun p hp => q _ _ (same_upd hp) (show Rp _ _ _ _ _ from rp_rng.mpr ⟨p, rfl, fun z => al _ z hp, upd_same⟩)⟩
  · exact bad_ans
theorem cr_range1 {X : Cx} : CallR X (.type "range") (fun vs H Q => ∃ j, vs = [V.int j] ∧ ∀ p, H p = none → Q (.ref p) (upd H p (.rng 0 j))) := by
  intro pins s σ H vs us Q I r h
  obtain ⟨j, rfl, q⟩ := h
  obtain ⟨u1, rfl, rj⟩ := L2.vals1 r
  obtain ⟨t, rfl⟩ := rj
  refine call_range_1 ⟨.ref s.heap.objs.size, upd H s.heap.objs.size (.rng 0 j), I.laid (t' := s.toks + 2) (fun b o e => Heap.get?_push_of_some _ e) (Nat.le_refl _) ?_, rfl, q _ (I.hok.fresh (Nat.le_refl _))⟩
  exact ⟨_, t, _, Heap.get?_push_size _ rfl⟩
def oRange1 : Val → Res (Val × Bool)
  | .int j => .ok (.rng 0 j, false)
  | _ => .bad
theorem s_range1 {K : PySem.W.Frag} : OpSL K (fun vs H Q => ∃ j, vs = [V.int j] ∧ ∀ p, H p = none → Q (.ref p) (upd H p (.rng 0 j))) (on1 oRange1) := fun H A vs xs al l => by
  unfold on1
  split
  · rename_i v
    rw [rpl_cons] at l
    obtain ⟨x, r, rfl, h1, h2⟩ := l
    rw [rpl_nil] at h2; subst h2
    cases v <;> try exact bad_ans
    rename_i j
    rw [rp_int] at h1; subst h1
    exact fun Q q => ⟨j, rfl, fun p hp => q _ _ (same_upd hp) (show Rp _ _ _ _ _ from rp_rng.mpr ⟨p, rfl, fun z => al _ z hp, upd_same⟩)⟩
  · exact bad_ans
theorem v_glI' {X : Cx} {G : Cfg} {x : Str} {pos : Pos} {i : Int} (hm : ∃ t, X.mg x = some (.int i t)) (hg : Gl X x := by rfl) (hd : (x == ("__debug__" : Str)) = false := by decide) : PE X (.Name x pos) (tE G (dC (.int i))) := by
  obtain ⟨t, hm⟩ := hm
  exact se_c (pe_glob (v := .int i) hg hm ⟨_, rfl⟩ hd) fun _ _ => rp_int.mpr rfl
theorem v_glT' {X : Cx} {G : Cfg} {x : Str} {pos : Pos} {c : Str} (hm : ∃ t, X.mg x = some (.str c t)) (hg : Gl X x := by rfl) (hd : (x == ("__debug__" : Str)) = false := by decide) : PE X (.Name x pos) (tE G (dC (.str c))) := by
  obtain ⟨t, hm⟩ := hm
  exact se_c (pe_glob (v := .str c) hg hm ⟨_, rfl⟩ hd) fun _ _ => rp_str.mpr rfl
end PV

namespace PV
open PySem PySem.Spec PyProof.Rows L2
open PySem.W (dataLt alike alikeAll minD maxD keyToksAll dataLt_all_yes dataLt_all_no dataLt_tuple dataLt_int dataLt_list)

/-! ### results -/
def Res.Is {α : Type} (r : Res α) (Q : α → Prop) : Prop := match r with
  | .ok a => Q a
  | _ => False
section
variable {α β : Type} {r : Res α} {f : α → Res β} {Q R : α → Prop} {Q' : β → Prop} {a : α}
@[simp] theorem is_ok : (Res.ok a).Is Q = Q a := rfl
@[simp] theorem is_bad : (Res.bad : Res α).Is Q = False := rfl
theorem is_bind : (r >>= f).Is Q' ↔ r.Is fun a => (f a).Is Q' := by cases r <;> exact Iff.rfl
theorem Res.Is.bind (h : r.Is R) (k : ∀ a, R a → (f a).Is Q') : (r >>= f).Is Q' := by
  cases r with
  | ok a => exact k a h
  | exc c p => exact h.elim
  | bad => exact h.elim
theorem Res.Is.mono (h : r.Is R) (k : ∀ a, R a → Q a) : r.Is Q := by
  cases r with
  | ok a => exact k a h
  | exc c p => exact h.elim
  | bad => exact h.elim
theorem Res.Is.ex (h : r.Is R) : ∃ a, r = .ok a ∧ R a := by
  cases r with
  | ok a => exact ⟨a, rfl, h⟩
  | exc c p => exact h.elim
  | bad => exact h.elim
theorem Res.Is.of (h : r = .ok a) (q : Q a) : r.Is Q := by subst h; exact q
end
/-! ### loops -/
theorem for_inv {g : GD} {b : SD} {Q : SR → Prop} : ∀ (vs : List Val) (I : Nat → EnvD → Prop) (env : EnvD), I 0 env →
    (∀ i (hi : i < vs.length) env, I i env → (g vs[i] env >>= b).Is fun r => match r with
      | .nx e => I (i + 1) e
      | .cnt e => I (i + 1) e
      | .brk e => Q (.nx e)
      | .ret v o e => Q (.ret v o e)) → (∀ env, I vs.length env → Q (.nx env)) → (forLoop g b vs env).Is Q
  | [], I, env, h0, hs, he => he env h0
  | v :: vs, I, env, h0, hs, he => by
    have h := hs 0 (by simp) env h0
    rw [is_bind] at h
    unfold forLoop
    refine Res.Is.bind h fun e1 h1 => Res.Is.bind h1 fun r hr => ?_
    cases r with
    | nx e => exact for_inv vs (fun i => I (i + 1)) e hr (fun i hi env h => hs (i + 1) (by simpa using hi) env h) he
    | cnt e => exact for_inv vs (fun i => I (i + 1)) e hr (fun i hi env h => hs (i + 1) (by simpa using hi) env h) he
    | brk e => exact hr
    | ret v o e => exact hr
/-- each turn goes on, the next environment known -/
theorem for_fold {S : Type} {g : GD} {b : SD} (enc : S → EnvD) (step : S → Val → S) : ∀ (vs : List Val) (s : S), (∀ v ∈ vs, ∀ s, (g v (enc s) >>= b) = .ok (.nx (enc (step s v)))) → forLoop g b vs (enc s) = .ok (.nx (enc (vs.foldl step s)))
  | [], s, h => rfl
  | v :: vs, s, h => by
    have h1 := h v (by simp) s
    unfold forLoop
    cases e : g v (enc s) with
    | ok e1 =>
      rw [e] at h1
      simp only [res_ok_bind] at h1 ⊢
      rw [h1]
      exact for_fold enc step vs (step s v) fun w hw => h w (by simp [hw])
    | exc c p => rw [e] at h1; cases h1
    | bad => rw [e] at h1; cases h1
theorem while_inv {t : TD} {b : SD} {Q : SR → Prop} (I : Nat → EnvD → Prop) (hs : ∀ m env, I m env → (t env).Is fun r => if r.1 = true then (0 < m ∧ (b r.2).Is fun r => match r with
      | .nx e => I (m - 1) e
      | .cnt e => I (m - 1) e
      | .brk e => Q (.nx e)
      | .ret v o e => Q (.ret v o e)) else Q (.nx r.2)) : ∀ (n m : Nat) (env : EnvD), m < n → I m env → (whileLoop t b n env).Is Q
  | 0, m, env, h, _ => by omega
  | n + 1, m, env, h, hi => by
    unfold whileLoop
    refine Res.Is.bind (hs m env hi) fun r hr => ?_
    cases e : r.1 with
    | true =>
      rw [e] at hr
      simp only [if_true] at hr ⊢
      refine Res.Is.bind hr.2 fun s hs2 => ?_
      cases s with
      | nx e => exact while_inv I hs n (m - 1) e (by omega) hs2
      | cnt e => exact while_inv I hs n (m - 1) e (by omega) hs2
      | brk e => exact hs2
      | ret v o e => exact hs2
    | false =>
      rw [e] at hr
      simpa using hr
/-- a comprehension's turn -/
def lcStep (g : GD) (t : TD) (elt : ED) (v : Val) (env : EnvD) : Res (Option Val × EnvD) := g v env >>= fun e1 => t e1 >>= fun r => if r.1 then (elt r.2 >>= fun y => .ok (some y.1, y.2.2)) else .ok (none, r.2)
theorem lc_inv1 {own : List Nat} {g : GD} {t : TD} {elt : ED} {Q : List Val × EnvD → Prop} : ∀ (vs : List Val) (I : Nat → List Val → EnvD → Prop) (acc : List Val) (env : EnvD), I 0 acc env →
    (∀ i (hi : i < vs.length) acc env, I i acc env → (lcStep g t elt vs[i] env).Is fun z => I (i + 1) (acc ++ z.1.toList) (wipeD z.2 own)) → (∀ acc env, I vs.length acc env → Q (acc, env)) → (lcLoop own g t elt vs env acc).Is Q
  | [], I, acc, env, h0, hs, he => he acc env h0
  | v :: vs, I, acc, env, h0, hs, he => by
    have h := hs 0 (by simp) acc env h0
    unfold lcStep at h
    rw [is_bind] at h
    unfold lcLoop
    refine Res.Is.bind h fun e1 h1 => ?_
    rw [is_bind] at h1
    refine Res.Is.bind h1 fun r hr => ?_
    have go : ∀ acc e, I 1 acc e → (lcLoop own g t elt vs e acc).Is Q := fun acc e h => lc_inv1 vs (fun i => I (i + 1)) acc e h (fun i hi acc env h => hs (i + 1) (by simpa using hi) acc env h) he
    cases e : r.1 with
    | true =>
      rw [e] at hr
      simp only [if_true] at hr ⊢
      rw [is_bind] at hr
      exact Res.Is.bind hr fun y hy => go _ _ hy
    | false =>
      rw [e] at hr
      simp only [Bool.false_eq_true, if_false] at hr ⊢
      exact go _ _ (by simpa using hr)
theorem noX_is {α : Type} {r : Res α} {Q : α → Prop} (h : r.Is Q) : (noX r).Is Q := by
  cases r with
  | ok a => exact h
  | exc c p => exact h.elim
  | bad => exact h.elim
theorem lc_inv {own : List Nat} {it : ID} {g : GD} {t : TD} {elt : ED} {Q : ER → Prop} {env env1 : EnvD} {vs : List Val} (I : Nat → List Val → EnvD → Prop) (hit : it env = .ok (vs, env1)) (hno : noOwn env1 own = true) (hlen : vs.length ≤ sizeLine) (h0 : I 0 [] (wipeD env1 own))
    (hs : ∀ i (hi : i < vs.length) acc env, I i acc env → (lcStep g t elt vs[i] env).Is fun z => I (i + 1) (acc ++ z.1.toList) (wipeD z.2 own)) (he : ∀ acc env, I vs.length acc env → Q (.lst acc, true, backD env1 env own)) : (dLc own it g t elt env).Is Q := by
  unfold dLc
  rw [hit]
  simp only [res_ok_bind, hno, Bool.true_and, decide_eq_true hlen, if_true]
  exact Res.Is.bind (noX_is (lc_inv1 (Q := fun z => Q (.lst z.1, true, backD env1 z.2 own)) vs I [] _ h0 hs he)) fun z hz => hz
theorem lc_pure1 {own : List Nat} {g : GD} {t : TD} {elt : ED} {env0 : EnvD} (r : Val → Option Val) : ∀ (vs acc : List Val), (∀ v ∈ vs, ∃ e, lcStep g t elt v env0 = .ok (r v, e) ∧ wipeD e own = env0) → lcLoop own g t elt vs env0 acc = .ok (acc ++ vs.filterMap r, env0)
  | [], acc, h => by simp [lcLoop]
  | v :: vs, acc, h => by
    obtain ⟨e, h1, h2⟩ := h v (by simp)
    have ih := fun acc hh => lc_pure1 (own := own) (g := g) (t := t) (elt := elt) (env0 := env0) r vs acc hh
    unfold lcStep at h1
    unfold lcLoop
    cases q : g v env0 with
    | ok e1 =>
      rw [q] at h1
      simp only [res_ok_bind] at h1 ⊢
      cases q2 : t e1 with
      | ok z =>
        rw [q2] at h1
        simp only [res_ok_bind] at h1 ⊢
        cases q3 : z.1 with
        | true =>
          rw [q3] at h1
          simp only [if_true] at h1 ⊢
          cases q4 : elt z.2 with
          | ok y =>
            rw [q4] at h1
            simp only [res_ok_bind] at h1 ⊢
            cases h1' : r v with
            | none => rw [h1'] at h1; cases h1
            | some u =>
              rw [h1'] at h1
              injection h1 with h1
              injection h1 with ha hb
              injection ha with ha
              rw [hb, h2, ih _ fun w hw => h w (by simp [hw])]
              simp [h1', ha]
          | exc c p => rw [q4] at h1; cases h1
          | bad => rw [q4] at h1; cases h1
        | false =>
          rw [q3] at h1
          simp only [Bool.false_eq_true, if_false] at h1 ⊢
          injection h1 with h1
          injection h1 with ha hb
          rw [hb, h2, ih _ fun w hw => h w (by simp [hw])]
          simp [← ha]
      | exc c p => rw [q2] at h1; cases h1
      | bad => rw [q2] at h1; cases h1
    | exc c p => rw [q] at h1; cases h1
    | bad => rw [q] at h1; cases h1
/-- a comprehension that changes nothing -/
theorem lc_pure {own : List Nat} {it : ID} {g : GD} {t : TD} {elt : ED} {env env1 env0 : EnvD} {vs : List Val} (r : Val → Option Val) (hit : it env = .ok (vs, env1)) (hno : noOwn env1 own = true) (hlen : vs.length ≤ sizeLine) (hw : wipeD env1 own = env0)
    (h : ∀ v ∈ vs, ∃ e, lcStep g t elt v env0 = .ok (r v, e) ∧ wipeD e own = env0) (hb : backD env1 env0 own = env1) : dLc own it g t elt env = .ok (.lst (vs.filterMap r), true, env1) := by
  unfold dLc
  rw [hit]
  simp only [res_ok_bind, hno, Bool.true_and, decide_eq_true hlen, if_true]
  rw [hw, lc_pure1 r vs [] h]
  simp [noX, hb]

/-! ### data of one kind -/
class EV (α : Type) where
  enc : α → Val
  dep : Nat
  lay : ∀ a : α, (toD (enc a)).canLay0 = true
  dp : ∀ a : α, (toD (enc a)).depth ≤ dep
  eqv : ∀ a b : α, eqV (enc a) (enc b) = true ↔ a = b
class OV (α : Type) extends EV α where
  lt : α → α → Bool
  alk : ∀ a b : α, alike (toD (enc a)) (toD (enc b)) = true
  ltv : ∀ a b : α, ltV (enc a) (enc b) = lt a b
  nn : ∀ a : α, enc a ≠ .non
  irr : ∀ a : α, lt a a = false
  tr : ∀ a b c : α, lt a b = true → lt b c = true → lt a c = true
  tot : ∀ a b : α, lt a b = false → lt b a = false → a = b
open EV (enc)
section
variable {α β : Type}
theorem enc_inj [EV α] {a b : α} (h : enc a = enc b) : a = b := (EV.eqv a b).mp (by rw [h]; exact (EV.eqv b b).mpr rfl)
theorem lay_map [EV α] : ∀ xs : List α, PyData.canLayAll0 (toDs (xs.map enc)) = true
  | [] => by simp [toDs, PyData.canLayAll0]
  | a :: xs => by rw [List.map_cons, toDs, PyData.canLayAll0, EV.lay, lay_map xs]; rfl
theorem dp_map [EV α] : ∀ xs : List α, PyData.depthAll (toDs (xs.map enc)) ≤ EV.dep α
  | [] => by simp [toDs, PyData.depthAll]
  | a :: xs => by rw [List.map_cons, toDs, PyData.depthAll]; exact Nat.max_le.mpr ⟨EV.dp a, dp_map xs⟩
theorem eqv_map [EV α] : ∀ xs ys : List α, PyData.eqvAll (toDs (xs.map enc)) (toDs (ys.map enc)) = true ↔ xs = ys
  | [], [] => by simp [toDs, PyData.eqvAll]
  | [], _ :: _ => by simp [toDs, PyData.eqvAll]
  | _ :: _, [] => by simp [toDs, PyData.eqvAll]
  | a :: xs, b :: ys => by
    rw [List.map_cons, List.map_cons, toDs, toDs, PyData.eqvAll, Bool.and_eq_true, eqv_map xs ys]
    have := EV.eqv a b
    unfold eqV at this
    rw [this, List.cons.injEq]
instance : EV Int where
  enc := .int
  dep := 0
  lay := fun a => by simp [toD, PyData.canLay0]
  dp := fun a => by simp [toD, PyData.depth]
  eqv := fun a b => by simp [eqV, toD, PyData.eqv]
instance : OV Int where
  lt := fun a b => decide (a < b)
  alk := fun a b => by simp [EV.enc, toD, alike]
  ltv := fun a b => by simp [EV.enc, ltV, toD, dataLt_int]
  nn := fun a => by simp [EV.enc]
  irr := fun a => by simp
  tr := fun a b c h1 h2 => by simp at *; omega
  tot := fun a b h1 h2 => by simp at *; omega
instance : EV Nat where
  enc := fun n => .int (n : Int)
  dep := 0
  lay := fun a => by simp [toD, PyData.canLay0]
  dp := fun a => by simp [toD, PyData.depth]
  eqv := fun a b => by simp [eqV, toD, PyData.eqv]; omega
instance : OV Nat where
  lt := fun a b => decide (a < b)
  alk := fun a b => by simp [EV.enc, toD, alike]
  ltv := fun a b => by simp [EV.enc, ltV, toD, dataLt_int]
  nn := fun a => by simp [EV.enc]
  irr := fun a => by simp
  tr := fun a b c h1 h2 => by simp at *; omega
  tot := fun a b h1 h2 => by simp at *; omega
instance [EV α] : EV (List α) where
  enc := fun xs => .tup (xs.map enc)
  dep := EV.dep α + 1
  lay := fun xs => by rw [toD, PyData.canLay0]; exact lay_map xs
  dp := fun xs => by rw [toD, PyData.depth]; exact Nat.succ_le_succ (dp_map xs)
  eqv := fun xs ys => by unfold eqV; rw [toD, toD, PyData.eqv]; exact eqv_map xs ys
def lexLt' (lt : α → α → Bool) [DecidableEq α] : List α → List α → Bool
  | [], [] => false
  | [], _ :: _ => true
  | _ :: _, [] => false
  | a :: xs, b :: ys => if a = b then lexLt' lt xs ys else lt a b
theorem alk_map [OV α] : ∀ xs ys : List α, alikeAll (toDs (xs.map enc)) (toDs (ys.map enc)) = true
  | [], _ => by simp [toDs, alikeAll]
  | _ :: _, [] => by simp [toDs, alikeAll]
  | a :: xs, b :: ys => by rw [List.map_cons, List.map_cons, toDs, toDs, alikeAll, OV.alk, alk_map xs ys]; rfl
theorem eqV_of [EV α] [DecidableEq α] (a b : α) : eqV (enc a) (enc b) = decide (a = b) := by
  have := EV.eqv a b
  by_cases h : a = b
  · rw [this.mpr h, decide_eq_true h]
  · cases e : eqV (enc a) (enc b) with
    | true => exact absurd (this.mp e) h
    | false => rw [decide_eq_false h]
theorem ltv_map [OV α] [DecidableEq α] : ∀ xs ys : List α, PyProof.Rows.lexLt PyProof.Rows.itemOrd (keyToksAll (toDs (xs.map enc))) (keyToksAll (toDs (ys.map enc))) = lexLt' OV.lt xs ys
  | [], [] => by simp only [List.map_nil, toDs, keyToksAll, lexLt']; rfl
  | [], b :: ys => by
    simp only [List.map_nil, List.map_cons, toDs, keyToksAll, lexLt']
    rw [PyProof.Rows.lex_diff (O := PyProof.Rows.itemOrd) (by simp)]; rfl
  | a :: xs, [] => by
    simp only [List.map_nil, List.map_cons, toDs, keyToksAll, lexLt']
    rw [PyProof.Rows.lex_diff (O := PyProof.Rows.itemOrd) (by simp)]; rfl
  | a :: xs, b :: ys => by
    rw [List.map_cons, List.map_cons, toDs, toDs]
    have al := OV.alk a b
    have eq := eqV_of a b
    unfold eqV at eq
    unfold lexLt'
    by_cases h : a = b
    · rw [if_pos h, dataLt_all_yes al (by rw [eq]; exact decide_eq_true h), ltv_map xs ys]
    · rw [if_neg h, dataLt_all_no al (by rw [eq]; exact decide_eq_false h)]
      exact OV.ltv a b
instance [OV α] [DecidableEq α] : OV (List α) where
  lt := lexLt' OV.lt
  alk := fun xs ys => by simp only [EV.enc]; rw [toD, toD, alike]; exact alk_map xs ys
  ltv := fun xs ys => by simp only [EV.enc]; unfold ltV; rw [toD, toD, dataLt_tuple]; exact ltv_map xs ys
  nn := fun xs => by simp [EV.enc]
  irr := fun xs => by
    induction xs with
    | nil => rfl
    | cons a xs ih => simp [lexLt', ih]
  tr := fun xs => by
    induction xs with
    | nil =>
      intro ys zs h1 h2
      cases ys with
      | nil => simp [lexLt'] at h1
      | cons b ys => cases zs with
        | nil => simp [lexLt'] at h2
        | cons c zs => rfl
    | cons a xs ih =>
      intro ys zs h1 h2
      cases ys with
      | nil => simp [lexLt'] at h1
      | cons b ys => cases zs with
        | nil => simp [lexLt'] at h2
        | cons c zs =>
          unfold lexLt' at h1 h2 ⊢
          by_cases e1 : a = b
          · subst e1
            by_cases e2 : a = c
            · subst e2
              rw [if_pos rfl] at h1 h2 ⊢
              exact ih _ _ h1 h2
            · rw [if_pos rfl] at h1
              rw [if_neg e2] at h2 ⊢
              exact h2
          · rw [if_neg e1] at h1
            by_cases e2 : b = c
            · subst e2
              rw [if_neg e1]; exact h1
            · rw [if_neg e2] at h2
              have h3 := OV.tr a b c h1 h2
              by_cases e3 : a = c
              · subst e3; rw [OV.irr] at h3; cases h3
              · rw [if_neg e3]; exact h3
  tot := fun xs => by
    induction xs with
    | nil =>
      intro ys h1 h2
      cases ys with
      | nil => rfl
      | cons b ys => simp [lexLt'] at h1
    | cons a xs ih =>
      intro ys h1 h2
      cases ys with
      | nil => simp [lexLt'] at h2
      | cons b ys =>
        unfold lexLt' at h1 h2
        by_cases e : a = b
        · subst e
          rw [if_pos rfl] at h1 h2
          rw [ih ys h1 h2]
        · rw [if_neg e] at h1
          rw [if_neg (Ne.symm e)] at h2
          exact absurd (OV.tot a b h1 h2) e
instance [EV α] [EV β] : EV (α × β) where
  enc := fun p => .tup [enc p.1, enc p.2]
  dep := max (EV.dep α) (EV.dep β) + 1
  lay := fun p => by simp only [toD, toDs, PyData.canLay0, PyData.canLayAll0, EV.lay]; rfl
  dp := fun p => by
    simp only [toD, toDs, PyData.depth, PyData.depthAll]
    have h1 := EV.dp p.1
    have h2 := EV.dp p.2
    omega
  eqv := fun p r => by
    have h1 := EV.eqv p.1 r.1
    have h2 := EV.eqv p.2 r.2
    unfold eqV at h1 h2 ⊢
    simp only [toD, toDs, PyData.eqv, PyData.eqvAll, Bool.and_true, Bool.and_eq_true]
    rw [h1, h2, Prod.ext_iff]
instance [OV α] [OV β] [DecidableEq α] [DecidableEq β] : OV (α × β) where
  lt := fun p r => if p.1 = r.1 then OV.lt p.2 r.2 else OV.lt p.1 r.1
  alk := fun p r => by simp only [EV.enc, toD, toDs, alike, alikeAll, OV.alk]; rfl
  ltv := fun p r => by
    simp only [EV.enc]
    unfold ltV
    simp only [toD, toDs]
    rw [dataLt_tuple]
    have e1 := eqV_of p.1 r.1
    have e2 := eqV_of p.2 r.2
    unfold eqV at e1 e2
    by_cases h : p.1 = r.1
    · rw [if_pos h, dataLt_all_yes (OV.alk _ _) (by rw [e1]; exact decide_eq_true h)]
      by_cases h2 : p.2 = r.2
      · rw [dataLt_all_yes (OV.alk _ _) (by rw [e2]; exact decide_eq_true h2), h2, OV.irr]
        rfl
      · rw [dataLt_all_no (OV.alk _ _) (by rw [e2]; exact decide_eq_false h2)]
        exact OV.ltv _ _
    · rw [if_neg h, dataLt_all_no (OV.alk _ _) (by rw [e1]; exact decide_eq_false h)]
      exact OV.ltv _ _
  nn := fun p => by simp [EV.enc]
  irr := fun p => by rw [if_pos rfl]; exact OV.irr _
  tr := fun p r s h1 h2 => by
    by_cases e1 : p.1 = r.1
    · rw [if_pos e1] at h1
      by_cases e2 : r.1 = s.1
      · rw [if_pos e2] at h2
        rw [if_pos (e1.trans e2)]; exact OV.tr _ _ _ h1 h2
      · rw [if_neg e2] at h2
        rw [if_neg (by rw [e1]; exact e2), e1]; exact h2
    · rw [if_neg e1] at h1
      by_cases e2 : r.1 = s.1
      · rw [if_neg (by rw [← e2]; exact e1), ← e2]; exact h1
      · rw [if_neg e2] at h2
        have h3 := OV.tr _ _ _ h1 h2
        by_cases e3 : p.1 = s.1
        · rw [e3, OV.irr] at h3; cases h3
        · rw [if_neg e3]; exact h3
  tot := fun p r h1 h2 => by
    by_cases e : p.1 = r.1
    · rw [if_pos e] at h1
      rw [if_pos e.symm] at h2
      exact Prod.ext e (OV.tot _ _ h1 h2)
    · rw [if_neg e] at h1
      rw [if_neg (Ne.symm e)] at h2
      exact absurd (OV.tot _ _ h1 h2) e
def encO [EV α] : Option α → Val
  | none => .non
  | some a => enc a
instance [OV α] : EV (Option α) where
  enc := encO
  dep := EV.dep α
  lay := fun a => by cases a with
    | none => simp [encO, toD, PyData.canLay0]
    | some a => exact EV.lay a
  dp := fun a => by cases a with
    | none => simp [encO, toD, PyData.depth]
    | some a => exact EV.dp a
  eqv := fun a b => by
    have no : ∀ v : Val, v ≠ .non → (toD v).canLay0 = true → PyData.eqv .none (toD v) = false ∧ PyData.eqv (toD v) .none = false := fun v nv lv => by
      cases v <;> simp_all [toD, PyData.eqv, PyData.canLay0]
    cases a with
    | none =>
      cases b with
      | none => simp [encO, eqV, toD, PyData.eqv]
      | some b =>
        have := (no (enc b) (OV.nn b) (EV.lay b)).1
        simp only [encO, eqV, reduceCtorEq, iff_false]
        rw [toD, this]; simp
    | some a =>
      cases b with
      | none =>
        have := (no (enc a) (OV.nn a) (EV.lay a)).2
        simp only [encO, eqV, reduceCtorEq, iff_false]
        rw [toD.eq_1, this]; simp
      | some b =>
        rw [Option.some.injEq]
        exact EV.eqv a b
end
end PV

namespace PV
open PySem PySem.Spec PyProof.Rows L2
open PySem.W (dataLt alike alikeAll minD maxD keyToksAll dataLt_all_yes dataLt_all_no dataLt_tuple dataLt_int dataLt_list)
open EV (enc)
@[simp] theorem dVar_a (i : Nat)  (env : EnvD) : dVar i env = ((match env[i]? with
  | some (.frz v) => .ok (v, false, env)
  | some (.own v) => .ok (v, false, env.set i (.frz v))
  | _ => .bad) : Res ER) := rfl
@[simp] theorem dC_a (v : Val)  (env : EnvD) : dC v env = ((.ok (v, false, env)) : Res ER) := rfl
@[simp] theorem dIxS_a (i : Nat) (db : ED)  (env : EnvD) : dIxS i db env = ((match env[i]? with
  | none | some .emp => .bad
  | _ => db env >>= fun b => match b.2.2[i]? with
    | some (.frz v) | some (.own v) => oIx v b.1 >>= fun z => .ok (z.1, z.2, b.2.2)
    | _ => .bad) : Res ER) := rfl
@[simp] theorem dTB_a (d : ED)  (env : EnvD) : dTB d env = ((d env >>= fun a => match a.1 with
  | .bl b => .ok (b, a.2.2)
  | _ => .bad) : Res (Bool × EnvD)) := rfl
@[simp] theorem dTru_a (d : ED)  (env : EnvD) : dTru d env = ((d env >>= fun a => match truV a.1 with
  | some b => .ok (b, a.2.2)
  | none => .bad) : Res (Bool × EnvD)) := rfl
@[simp] theorem dTruS_a (i : Nat)  (env : EnvD) : dTruS i env = ((match env[i]? with
  | some (.frz v) | some (.own v) => (match truV v with
    | some b => .ok (b, env)
    | none => .bad)
  | _ => .bad) : Res (Bool × EnvD)) := rfl
@[simp] theorem dAndT_a (d e : TD)  (env : EnvD) : dAndT d e env = ((d env >>= fun r => if r.1 then e r.2 else .ok (false, r.2)) : Res (Bool × EnvD)) := rfl
@[simp] theorem dOrT_a (d e : TD)  (env : EnvD) : dOrT d e env = ((d env >>= fun r => if r.1 then .ok (true, r.2) else e r.2) : Res (Bool × EnvD)) := rfl
@[simp] theorem dNotT_a (d : TD)  (env : EnvD) : dNotT d env = ((d env >>= fun r => .ok (!r.1, r.2)) : Res (Bool × EnvD)) := rfl
@[simp] theorem dIf_a (t : TD) (d e : ED)  (env : EnvD) : dIf t d e env = ((t env >>= fun r => if r.1 then d r.2 else e r.2) : Res ER) := rfl
@[simp] theorem dAndV_a (d e : ED)  (env : EnvD) : dAndV d e env = ((d env >>= fun a => match a.1 with
  | .bl true => e a.2.2
  | .bl false => .ok (.bl false, false, a.2.2)
  | _ => .bad) : Res ER) := rfl
@[simp] theorem dOrV_a (d e : ED)  (env : EnvD) : dOrV d e env = ((d env >>= fun a => match a.1 with
  | .bl false => e a.2.2
  | .bl true => .ok (.bl true, false, a.2.2)
  | _ => .bad) : Res ER) := rfl
@[simp] theorem dTup_a (ds : List ED)  (env : EnvD) : dTup ds env = ((dList ds env >>= fun r => .ok (.tup r.1, false, r.2)) : Res ER) := rfl
@[simp] theorem dLst_a (ds : List ED)  (env : EnvD) : dLst ds env = ((dList ds env >>= fun r => .ok (.lst r.1, true, r.2)) : Res ER) := rfl
@[simp] theorem sSeq_a (d e : SD)  (env : EnvD) : sSeq d e env = ((d env >>= fun r => match r with
  | .nx env => e env
  | r => .ok r) : Res SR) := rfl
@[simp] theorem sExpr_a (d : ED)  (env : EnvD) : sExpr d env = ((d env >>= fun a => .ok (.nx a.2.2)) : Res SR) := rfl
@[simp] theorem sRet_a (d : ED)  (env : EnvD) : sRet d env = ((d env >>= fun a => .ok (.ret a.1 a.2.1 a.2.2)) : Res SR) := rfl
@[simp] theorem sRetF_a (d : ED)  (env : EnvD) : sRetF d env = ((d env >>= fun a => .ok (.ret a.1 false a.2.2)) : Res SR) := rfl
@[simp] theorem sRetN_a  (env : EnvD) : sRetN  env = ((.ok (.ret .non false env)) : Res SR) := rfl
@[simp] theorem sIf_a (t : TD) (d e : SD)  (env : EnvD) : sIf t d e env = ((t env >>= fun r => if r.1 then d r.2 else e r.2) : Res SR) := rfl
@[simp] theorem sBrk_a  (env : EnvD) : sBrk  env = ((.ok (.brk env)) : Res SR) := rfl
@[simp] theorem sCnt_a  (env : EnvD) : sCnt  env = ((.ok (.cnt env)) : Res SR) := rfl
@[simp] theorem sNil_a  (env : EnvD) : sNil  env = ((.ok (.nx env)) : Res SR) := rfl
@[simp] theorem sAsg_a (d : ED) (g : GD)  (env : EnvD) : sAsg d g env = ((d env >>= fun a => g a.1 a.2.2 >>= fun env => .ok (.nx env)) : Res SR) := rfl
@[simp] theorem gN_a (i : Nat)  (v : Val) (env : EnvD) : gN i v env = ((.ok (env.set i (.frz v))) : Res EnvD) := rfl
@[simp] theorem gT_a (n : Nat) (ds : GDs)  (v : Val) (env : EnvD) : gT n ds v env = ((match v with
  | .tup vs => if vs.length = n then ds vs env else .bad
  | _ => .bad) : Res EnvD) := rfl
@[simp] theorem gsCons_a (d : GD) (ds : GDs)  (vs : List Val) (env : EnvD) : gsCons d ds vs env = ((match vs with
  | v :: vs => d v env >>= fun env => ds vs env
  | [] => .bad) : Res EnvD) := rfl
@[simp] theorem gsNil_a  (vs : List Val) (env : EnvD) : gsNil  vs env = ((match vs with
  | [] => .ok env
  | _ => .bad) : Res EnvD) := rfl
@[simp] theorem sOwn_a (d : ED) (i : Nat)  (env : EnvD) : sOwn d i env = ((d env >>= fun a => .ok (.nx (a.2.2.set i (if a.2.1 then .own a.1 else .frz a.1)))) : Res SR) := rfl
@[simp] theorem sSet_a (i : Nat) (di dv : ED)  (env : EnvD) : sSet i di dv env = ((dv env >>= fun v => match v.2.2[i]? with
  | some (.own _) => di v.2.2 >>= fun k => (match k.2.2[i]? with
    | some (.own c) => (match setV c k.1 v.1 with
      | some c => .ok (.nx (k.2.2.set i (.own c)))
      | none => .bad)
    | _ => .bad)
  | _ => .bad) : Res SR) := rfl
@[simp] theorem sAug_a (i : Nat) (g : Int → Int → Int) (d : ED)  (env : EnvD) : sAug i g d env = ((match env[i]? with
  | some (.frz v) => d env >>= fun w => (match oAug g v w.1 with
    | some u => .ok (.nx (w.2.2.set i (.frz u)))
    | none => .bad)
  | _ => .bad) : Res SR) := rfl
@[simp] theorem dApp_a (i : Nat) (d : ED)  (env : EnvD) : dApp i d env = ((match env[i]? with
  | some (.own (.lst _)) => d env >>= fun a => (match a.2.2[i]? with
    | some (.own (.lst vs)) => if vs.length < sizeLine then .ok (.non, false, a.2.2.set i (.own (.lst (vs ++ [a.1])))) else .bad
    | _ => .bad)
  | _ => .bad) : Res ER) := rfl
@[simp] theorem dExt_a (i : Nat) (d : ED)  (env : EnvD) : dExt i d env = ((match env[i]? with
  | some (.own (.lst _)) => d env >>= fun a => (match a.2.2[i]?, a.1 with
    | some (.own (.lst vs)), .lst ws => if vs.length + ws.length ≤ sizeLine then .ok (.non, false, a.2.2.set i (.own (.lst (vs ++ ws)))) else .bad
    | _, _ => .bad)
  | _ => .bad) : Res ER) := rfl
@[simp] theorem dPop_a (i : Nat)  (env : EnvD) : dPop i env = ((match env[i]? with
  | some (.own (.lst vs)) => (match vs.getLast? with
    | some v => .ok (v, false, env.set i (.own (.lst vs.dropLast)))
    | none => .bad)
  | _ => .bad) : Res ER) := rfl
@[simp] theorem sPar_a (i j : Nat) (ds : List ED)  (env : EnvD) : sPar i j ds env = ((dList ds env >>= fun r => match r.1 with
  | [v, w] => .ok (.nx ((r.2.set i (.frz v)).set j (.frz w)))
  | _ => .bad) : Res SR) := rfl
@[simp] theorem sPar3_a (i j l : Nat) (ds : List ED)  (env : EnvD) : sPar3 i j l ds env = ((dList ds env >>= fun r => match r.1 with
  | [v, w, u] => .ok (.nx (((r.2.set i (.frz v)).set j (.frz w)).set l (.frz u)))
  | _ => .bad) : Res SR) := rfl
@[simp] theorem dSl_a (da : ED) (lo hi : OD)  (env : EnvD) : dSl da lo hi env = ((da env >>= fun a => lo a.2.2 >>= fun l => hi l.2 >>= fun h => oSl a.1 l.1 h.1 >>= fun z => .ok (z.1, z.2, h.2)) : Res ER) := rfl
@[simp] theorem pSome_a (d : ED)  (env : EnvD) : pSome d env = ((d env >>= fun a => match a.1 with
  | .int i => .ok (some i, a.2.2)
  | _ => .bad) : Res (Option Int × EnvD)) := rfl
@[simp] theorem pNone_a  (env : EnvD) : pNone  env = ((.ok (none, env)) : Res (Option Int × EnvD)) := rfl
@[simp] theorem iVal_a (d : ED)  (env : EnvD) : iVal d env = ((d env >>= fun a => match seqV a.1 with
  | some vs => .ok (vs, a.2.2)
  | none => .bad) : Res (List Val × EnvD)) := rfl
@[simp] theorem iRng_a (ds : List ED)  (env : EnvD) : iRng ds env = ((dList ds env >>= fun r => match rangeV r.1 with
  | some vs => .ok (vs, r.2)
  | none => .bad) : Res (List Val × EnvD)) := rfl
@[simp] theorem dYes_a  (env : EnvD) : dYes  env = ((.ok (true, env)) : Res (Bool × EnvD)) := rfl
@[simp] theorem sFor_a (it : ID) (g : GD) (b : SD)  (env : EnvD) : sFor it g b env = ((it env >>= fun r => forLoop g b r.1 r.2) : Res SR) := rfl
@[simp] theorem dBin_a (f : Val → Val → Res (Val × Bool)) (da db : ED) (env : EnvD) : dBin f da db env = (da env >>= fun a => db a.2.2 >>= fun b => f a.1 b.1 >>= fun z => .ok (z.1, z.2, b.2.2)) := rfl
@[simp] theorem dUn_a (f : Val → Res (Val × Bool)) (da : ED) (env : EnvD) : dUn f da env = (da env >>= fun a => f a.1 >>= fun z => .ok (z.1, z.2, a.2.2)) := rfl
@[simp] theorem dRS_a (f : Val → Val → Res (Val × Bool)) (da : ED) (i : Nat) (env : EnvD) : dRS f da i env = (da env >>= fun a => match a.2.2[i]? with
  | some (.frz v) | some (.own v) => f a.1 v >>= fun z => .ok (z.1, z.2, a.2.2)
  | _ => .bad) := rfl
@[simp] theorem dChain_a (f f' : Val → Val → Res (Val × Bool)) (da db dc : ED) (env : EnvD) : dChain f f' da db dc env = (da env >>= fun a => db a.2.2 >>= fun b => f a.1 b.1 >>= fun z => match z.1 with
  | .bl true => dc b.2.2 >>= fun c => f' b.1 c.1 >>= fun z => .ok (z.1, z.2, c.2.2)
  | .bl false => .ok (.bl false, false, b.2.2)
  | _ => .bad) := rfl
@[simp] theorem dCB_a (f : List Val → Res (Val × Bool)) (ds : List ED) (env : EnvD) : dCB f ds env = (dList ds env >>= fun r => f r.1 >>= fun z => .ok (z.1, z.2, r.2)) := rfl
@[simp] theorem dCBS_a (f : Val → Res (Val × Bool)) (i : Nat) (env : EnvD) : dCBS f i env = (match env[i]? with
  | some (.frz v) | some (.own v) => f v >>= fun z => .ok (z.1, z.2, env)
  | _ => .bad) := rfl
@[simp] theorem iOf_a (f : List Val → Option (List Val)) (ds : List ED) (env : EnvD) : iOf f ds env = (dList ds env >>= fun r => match f r.1 with
  | some vs => .ok (vs, r.2)
  | none => .bad) := rfl
@[simp] theorem sWhile_a (n : Nat) (t : TD) (b : SD) (env : EnvD) : sWhile n t b env = whileLoop t b n env := rfl
@[simp] theorem lcStep_a (g : GD) (t : TD) (elt : ED) (v : Val) (env : EnvD) : lcStep g t elt v env = (g v env >>= fun e1 => t e1 >>= fun r => if r.1 then (elt r.2 >>= fun y => .ok (some y.1, y.2.2)) else .ok (none, r.2)) := rfl
@[simp] theorem dList_nil (env : EnvD) : dList [] env = .ok ([], env) := rfl
@[simp] theorem dList_cons (d : ED) (ds : List ED) (env : EnvD) : dList (d :: ds) env = (d env >>= fun a => dList ds a.2.2 >>= fun r => .ok (a.1 :: r.1, r.2)) := rfl
@[simp] theorem wipeD_nil (env : EnvD) : wipeD env [] = env := rfl
@[simp] theorem wipeD_cons (env : EnvD) (v : Nat) (vs : List Nat) : wipeD env (v :: vs) = (wipeD env vs).set v .emp := rfl
@[simp] theorem backD_nil (e1 e2 : EnvD) : backD e1 e2 [] = e2 := rfl
@[simp] theorem backD_cons (e1 e2 : EnvD) (v : Nat) (vs : List Nat) : backD e1 e2 (v :: vs) = (backD e1 e2 vs).set v (e1[v]?.getD .emp) := rfl
@[simp] theorem noOwn_nil (env : EnvD) : noOwn env [] = true := rfl
@[simp] theorem noOwn_cons (env : EnvD) (v : Nat) (vs : List Nat) : noOwn env (v :: vs) = ((match env[v]? with
  | some (.own _) => false
  | _ => true) && noOwn env vs) := rfl
@[simp] theorem env0_a (n : Nat) (ws : List Val) : env0 n ws = ws.map PV.Slot.frz ++ List.replicate (n - ws.length) .emp := rfl
@[simp] theorem env0H_a (n : Nat) (h : Val) (ws : List Val) : env0H n h ws = .own h :: (ws.map PV.Slot.frz ++ List.replicate (n - (ws.length + 1)) .emp) := rfl
@[simp] theorem on1_a (f : Val → Res (Val × Bool)) (v : Val) : on1 f [v] = f v := rfl
@[simp] theorem on2_a (f : Val → Val → Res (Val × Bool)) (v w : Val) : on2 f [v, w] = f v w := rfl
/-! ### values of one kind -/
section
variable {α β : Type}
@[simp] theorem enc_int (i : Int) : enc i = Val.int i := rfl
@[simp] theorem enc_nat (i : Nat) : enc i = Val.int (i : Int) := rfl
@[simp] theorem enc_list [EV α] (xs : List α) : enc xs = Val.tup (xs.map enc) := rfl
@[simp] theorem enc_pair [EV α] [EV β] (p : α × β) : enc p = Val.tup [enc p.1, enc p.2] := rfl
@[simp] theorem enc_none [OV α] : enc (none : Option α) = Val.non := rfl
@[simp] theorem enc_some [OV α] (a : α) : enc (some a) = enc a := rfl
theorem enc_fun : (enc : Int → Val) = Val.int := rfl
theorem map_enc_fun : List.map Val.int = List.map (enc : Int → Val) := rfl
/-! ### operators -/
@[simp] theorem oAdd_ii (i j : Int) : oAdd (.int i) (.int j) = .ok (.int (i + j), false) := rfl
@[simp] theorem oAdd_ib (i : Int) (k : Bool) : oAdd (.int i) (.bl k) = .ok (.int (i + b2 k), false) := rfl
theorem oAdd_tt (xs ys : List Val) (h : xs.length + ys.length ≤ sizeLine) : oAdd (.tup xs) (.tup ys) = .ok (.tup (xs ++ ys), false) := if_pos h
theorem oAdd_ll (xs ys : List Val) (h : xs.length + ys.length ≤ sizeLine) : oAdd (.lst xs) (.lst ys) = .ok (.lst (xs ++ ys), true) := if_pos h
@[simp] theorem oSub_ii (i j : Int) : oSub (.int i) (.int j) = .ok (.int (i - j), false) := rfl
theorem oMul_ii (i j : Int) (h : mulOk i j = true) : oMul (.int i) (.int j) = .ok (.int (i * j), false) := if_pos h
theorem oMul_li (xs : List Val) (n : Nat) (h : xs.length * n ≤ sizeLine) (h2 : n ≤ sizeLine) : oMul (.lst xs) (.int n) = .ok (.lst (List.replicate n xs).flatten, true) := by
  have q : (n : Int).natAbs < 2 ^ 63 ∧ xs.length * (n : Int).toNat ≤ sizeLine := ⟨by rw [show sizeLine = 16777216 from rfl] at h2; omega, by rw [Int.toNat_natCast]; exact h⟩
  unfold oMul
  simp only
  rw [if_pos q, Int.toNat_natCast]
theorem oMul_l1 (x : Val) (n : Nat) (h : n ≤ sizeLine) : oMul (.lst [x]) (.int n) = .ok (.lst (List.replicate n x), true) := by
  rw [oMul_li _ _ (by simpa using h) h]
  have : ∀ n, (List.replicate n [x]).flatten = List.replicate n x := fun n => by
    induction n with
    | zero => rfl
    | succ n ih => rw [List.replicate_succ, List.flatten_cons, ih]; rfl
  rw [this]
theorem oMul_t1 (x : Val) (n : Nat) (h : n ≤ 1000) : oMul (.tup [x]) (.int n) = .ok (.tup (List.replicate n x), false) := by
  have : ∀ n, (List.replicate n [x]).flatten = List.replicate n x := fun n => by
    induction n with
    | zero => rfl
    | succ n ih => rw [List.replicate_succ, List.flatten_cons, ih]; rfl
  unfold oMul
  simp only
  rw [if_pos ⟨by omega, by simp⟩, Int.toNat_natCast, this]
theorem oDiv_ii (i j : Int) (h : 0 < j) (h2 : j < 1073741824) : oDiv (.int i) (.int j) = .ok (.int (i / j), false) := if_pos ⟨h, by omega⟩
theorem oMod_ii (i j : Int) (h : 0 < j) : oMod (.int i) (.int j) = .ok (.int (i % j), false) := if_pos h
@[simp] theorem oNeg_i (i : Int) : oNeg (.int i) = .ok (.int (-i), false) := rfl
@[simp] theorem oPow_10_18 : oPow (.int 10) (.int 18) = .ok (.int 1000000000000000000, false) := by rfl
@[simp] theorem oPow_10_9 : oPow (.int 10) (.int 9) = .ok (.int 1000000000, false) := by rfl
@[simp] theorem oNot_b (b : Bool) : oNot (.bl b) = .ok (.bl (!b), false) := rfl
/-! ### comparisons -/
theorem ok_enc [EV α] (a : α) (h : EV.dep α ≤ 64) : okV (enc a) = true := by
  unfold okV SeqAt.shaped
  rw [EV.lay, Bool.true_and]
  exact decide_eq_true (Nat.le_trans (EV.dp a) h)
theorem oEq_e [EV α] [DecidableEq α] (a b : α) (h : EV.dep α ≤ 64) : oEq (enc a) (enc b) = .ok (.bl (decide (a = b)), false) := by
  unfold oEq; rw [ok_enc a h, ok_enc b h, eqV_of]; rfl
theorem oNe_e [EV α] [DecidableEq α] (a b : α) (h : EV.dep α ≤ 64) : oNe (enc a) (enc b) = .ok (.bl (!decide (a = b)), false) := by
  unfold oNe; rw [ok_enc a h, ok_enc b h, eqV_of]; rfl
theorem cmp_enc [OV α] (a b : α) (h : EV.dep α ≤ 64) : cmpOk (enc a) (enc b) = true := by
  unfold cmpOk
  rw [ok_enc a h, ok_enc b h, OV.alk]
  have := OV.nn a
  cases e : enc a <;> simp_all
@[simp] theorem oEq_ii (i j : Int) : oEq (.int i) (.int j) = .ok (.bl (decide (i = j)), false) := oEq_e i j (by decide)
@[simp] theorem oNe_ii (i j : Int) : oNe (.int i) (.int j) = .ok (.bl (!decide (i = j)), false) := oNe_e i j (by decide)
@[simp] theorem oLt_ii (i j : Int) : oLt (.int i) (.int j) = .ok (.bl (decide (i < j)), false) := by
  have h := cmp_enc i j (by decide)
  have e : ltV (.int i) (.int j) = decide (i < j) := OV.ltv i j
  unfold oLt; rw [show cmpOk (.int i) (.int j) = true from h, e]; rfl
@[simp] theorem oGt_ii (i j : Int) : oGt (.int i) (.int j) = .ok (.bl (decide (j < i)), false) := by
  have h := cmp_enc i j (by decide)
  have e : ltV (.int j) (.int i) = decide (j < i) := OV.ltv j i
  unfold oGt; rw [show cmpOk (.int i) (.int j) = true from h, e]; rfl
@[simp] theorem oLe_ii (i j : Int) : oLe (.int i) (.int j) = .ok (.bl (decide (i ≤ j)), false) := by
  have h := cmp_enc i j (by decide)
  have e : ltV (.int j) (.int i) = decide (j < i) := OV.ltv j i
  unfold oLe; rw [show cmpOk (.int i) (.int j) = true from h, e]
  simp only [if_true]
  congr 3
  by_cases h : i ≤ j
  · rw [decide_eq_true h, decide_eq_false (by omega)]; rfl
  · rw [decide_eq_false h, decide_eq_true (by omega)]; rfl
@[simp] theorem oGe_ii (i j : Int) : oGe (.int i) (.int j) = .ok (.bl (decide (j ≤ i)), false) := by
  have h := cmp_enc i j (by decide)
  have e : ltV (.int i) (.int j) = decide (i < j) := OV.ltv i j
  unfold oGe; rw [show cmpOk (.int i) (.int j) = true from h, e]
  simp only [if_true]
  congr 3
  by_cases h : j ≤ i
  · rw [decide_eq_true h, decide_eq_false (by omega)]; rfl
  · rw [decide_eq_false h, decide_eq_true (by omega)]; rfl
@[simp] theorem oEq_bb (a b : Bool) : oEq (.bl a) (.bl b) = .ok (.bl (decide (a = b)), false) := by cases a <;> cases b <;> rfl
@[simp] theorem oNe_bb (a b : Bool) : oNe (.bl a) (.bl b) = .ok (.bl (!decide (a = b)), false) := by cases a <;> cases b <;> rfl
theorem oEq_tt [EV α] [DecidableEq α] (xs ys : List α) (h : EV.dep (List α) ≤ 64) : oEq (.tup (xs.map enc)) (.tup (ys.map enc)) = .ok (.bl (decide (xs = ys)), false) := oEq_e xs ys h
theorem oNe_tt [EV α] [DecidableEq α] (xs ys : List α) (h : EV.dep (List α) ≤ 64) : oNe (.tup (xs.map enc)) (.tup (ys.map enc)) = .ok (.bl (!decide (xs = ys)), false) := oNe_e xs ys h
theorem ok_lst [EV α] (xs : List α) (h : EV.dep (List α) ≤ 64) : okV (.lst (xs.map enc)) = true := by
  have := ok_enc xs h
  unfold okV SeqAt.shaped at this ⊢
  simpa [toD, PyData.canLay0, PyData.depth] using this
theorem eqV_lst [EV α] [DecidableEq α] (xs ys : List α) : eqV (.lst (xs.map enc)) (.lst (ys.map enc)) = decide (xs = ys) := by
  rw [← eqV_of xs ys]
  simp [eqV, toD, PyData.eqv]
theorem oEq_ll [EV α] [DecidableEq α] (xs ys : List α) (h : EV.dep (List α) ≤ 64) : oEq (.lst (xs.map enc)) (.lst (ys.map enc)) = .ok (.bl (decide (xs = ys)), false) := by
  unfold oEq; rw [ok_lst xs h, ok_lst ys h, eqV_lst]; rfl
theorem oNe_ll [EV α] [DecidableEq α] (xs ys : List α) (h : EV.dep (List α) ≤ 64) : oNe (.lst (xs.map enc)) (.lst (ys.map enc)) = .ok (.bl (!decide (xs = ys)), false) := by
  unfold oNe; rw [ok_lst xs h, ok_lst ys h, eqV_lst]; rfl
theorem oEq_lnil [EV α] (xs : List α) (h : EV.dep (List α) ≤ 64) : oEq (.lst (xs.map enc)) (.lst []) = .ok (.bl xs.isEmpty, false) := by
  unfold oEq; rw [ok_lst xs h]
  cases xs <;> simp [okV, SeqAt.shaped, toD, toDs, PyData.canLay0, PyData.canLayAll0, PyData.depth, PyData.depthAll, eqV, PyData.eqv, PyData.eqvAll]
theorem oNe_lnil [EV α] (xs : List α) (h : EV.dep (List α) ≤ 64) : oNe (.lst (xs.map enc)) (.lst []) = .ok (.bl (!xs.isEmpty), false) := by
  unfold oNe; rw [ok_lst xs h]
  cases xs <;> simp [okV, SeqAt.shaped, toD, toDs, PyData.canLay0, PyData.canLayAll0, PyData.depth, PyData.depthAll, eqV, PyData.eqv, PyData.eqvAll]
@[simp] theorem oIs_n (v : Val) : oIs v .non = .ok (.bl (isNon v), false) := by cases v <;> rfl
@[simp] theorem oIsNot_n (v : Val) : oIsNot v .non = .ok (.bl (!isNon v), false) := by cases v <;> rfl
@[simp] theorem oIs_bb (a b : Bool) : oIs (.bl a) (.bl b) = .ok (.bl (decide (a = b)), false) := rfl
@[simp] theorem oIsNot_bb (a b : Bool) : oIsNot (.bl a) (.bl b) = .ok (.bl (!decide (a = b)), false) := rfl
theorem isNon_enc [OV α] (a : α) : isNon (enc a) = false := by
  have := OV.nn a
  cases e : enc a <;> simp_all [isNon]
@[simp] theorem isNon_non : isNon .non = true := rfl
@[simp] theorem isNon_int (i : Int) : isNon (.int i) = false := rfl
@[simp] theorem isNon_bl (i : Bool) : isNon (.bl i) = false := rfl
@[simp] theorem isNon_tup (vs : List Val) : isNon (.tup vs) = false := rfl
@[simp] theorem isNon_lst (vs : List Val) : isNon (.lst vs) = false := rfl
@[simp] theorem isNon_str (vs : Str) : isNon (.str vs) = false := rfl
/-! ### truth -/
@[simp] theorem truV_b (b : Bool) : truV (.bl b) = some b := rfl
@[simp] theorem truV_i (i : Int) : truV (.int i) = some (i != 0) := rfl
@[simp] theorem truV_n : truV .non = some false := rfl
@[simp] theorem truV_t (vs : List Val) : truV (.tup vs) = some (!vs.isEmpty) := rfl
@[simp] theorem truV_l (vs : List Val) : truV (.lst vs) = some (!vs.isEmpty) := rfl
/-! ### built-ins -/
@[simp] theorem oLen_t (vs : List Val) : oLen (.tup vs) = .ok (.int vs.length, false) := rfl
@[simp] theorem oLen_l (vs : List Val) : oLen (.lst vs) = .ok (.int vs.length, false) := rfl
@[simp] theorem oInt_i (i : Int) : oInt (.int i) = .ok (.int i, false) := rfl
@[simp] theorem oInt_b (k : Bool) : oInt (.bl k) = .ok (.int (b2 k), false) := rfl
@[simp] theorem oAbs_i (i : Int) : oAbs (.int i) = .ok (.int (if i < 0 then -i else i), false) := rfl
@[simp] theorem oTuple_l (vs : List Val) : oTuple (.lst vs) = .ok (.tup vs, false) := rfl
@[simp] theorem oTuple_t (vs : List Val) : oTuple (.tup vs) = .ok (.tup vs, false) := rfl
@[simp] theorem oList_l (vs : List Val) : oList (.lst vs) = .ok (.lst vs, true) := rfl
@[simp] theorem oList_t (vs : List Val) : oList (.tup vs) = .ok (.lst vs, true) := rfl
@[simp] theorem oMax2_ii (i j : Int) : oMax2 (.int i) (.int j) = .ok (.int (if j > i then j else i), false) := rfl
@[simp] theorem oMin2_ii (i j : Int) : oMin2 (.int i) (.int j) = .ok (.int (if j < i then j else i), false) := rfl
@[simp] theorem intsV_enc (is : List Int) : intsV (is.map enc) = some is := intsV_map is
@[simp] theorem oSum_l (is : List Int) : oSum (.lst (is.map enc)) = .ok (.int is.sum, false) := by simp only [oSum, intsV_enc]
@[simp] theorem oSum_t (is : List Int) : oSum (.tup (is.map enc)) = .ok (.int is.sum, false) := by simp only [oSum, intsV_enc]
@[simp] theorem oAll_l (bs : List Bool) : oAll (.lst (bs.map .bl)) = .ok (.bl (bs.all id), false) := by simp only [oAll, boolsV_map]
@[simp] theorem oAny_l (bs : List Bool) : oAny (.lst (bs.map .bl)) = .ok (.bl (bs.any id), false) := by simp only [oAny, boolsV_map]
@[simp] theorem isi_ii (i : Int) : oIsi (.int i) (.ty "int") = .ok (.bl true, false) := rfl
@[simp] theorem isi_ib (i : Int) : oIsi (.int i) (.ty "bool") = .ok (.bl false, false) := rfl
@[simp] theorem isi_it (i : Int) : oIsi (.int i) (.ty "tuple") = .ok (.bl false, false) := rfl
@[simp] theorem isi_tt (vs : List Val) : oIsi (.tup vs) (.ty "tuple") = .ok (.bl true, false) := rfl
@[simp] theorem isi_ti (vs : List Val) : oIsi (.tup vs) (.ty "int") = .ok (.bl false, false) := rfl
@[simp] theorem isi_lt (vs : List Val) : oIsi (.lst vs) (.ty "tuple") = .ok (.bl false, false) := rfl
@[simp] theorem isi_li (vs : List Val) : oIsi (.lst vs) (.ty "int") = .ok (.bl false, false) := rfl
@[simp] theorem isi_nt : oIsi .non (.ty "tuple") = .ok (.bl false, false) := rfl
@[simp] theorem isi_ni : oIsi .non (.ty "int") = .ok (.bl false, false) := rfl
@[simp] theorem isi_bi (b : Bool) : oIsi (.bl b) (.ty "int") = .ok (.bl true, false) := rfl
@[simp] theorem isi_bb (b : Bool) : oIsi (.bl b) (.ty "bool") = .ok (.bl true, false) := rfl
/-! ### places -/
theorem ixN_nat (n i : Nat) (h : i < n) : ixN n (i : Int) = some i := by
  unfold ixN; rw [if_pos (by omega), if_pos (by omega)]; simp
theorem oIx_t (vs : List Val) (i : Int) {v : Val} (h : atI vs i = some v) : oIx (.tup vs) (.int i) = .ok (v, false) := by
  show (match atI vs i with | some v => _ | none => _) = _
  rw [h]
theorem oIx_l (vs : List Val) (i : Int) {v : Val} (h : atI vs i = some v) : oIx (.lst vs) (.int i) = .ok (v, false) := by
  show (match atI vs i with | some v => _ | none => _) = _
  rw [h]
theorem atI_nat' {xs : List α} {i : Nat} (h : i < xs.length) : atI xs (i : Int) = some xs[i] := by
  unfold atI; rw [ixN_nat _ _ h]; simp [h]
theorem atI_map (f : α → β) (xs : List α) (i : Int) : atI (xs.map f) i = (atI xs i).map f := by
  unfold atI; rw [List.length_map]
  cases ixN xs.length i <;> simp
theorem atI_last' {xs : List α} {x : α} (h : xs.getLast? = some x) : atI xs (-1) = some x := by
  have hn : xs ≠ [] := fun z => by rw [z] at h; cases h
  have hl : 0 < xs.length := List.length_pos_iff.mpr hn
  unfold atI ixN
  rw [if_neg (by omega), if_pos (by omega)]
  rw [List.getLast?_eq_getElem?] at h
  simp only [Option.bind_some]
  rw [show (-1 + (xs.length : Int)).toNat = xs.length - 1 by omega]
  exact h
/-- a slice -/
def cut (xs : List α) (lo hi : Option Int) : List α := (xs.drop (HT.sIx xs.length 0 lo)).take (HT.sIx xs.length xs.length hi - HT.sIx xs.length 0 lo)
theorem cutD_eq (vs : List Val) (lo hi : Option Int) : cutD vs lo hi = cut vs lo hi := rfl
theorem cut_map (f : α → β) (xs : List α) (lo hi : Option Int) : cut (xs.map f) lo hi = (cut xs lo hi).map f := by
  unfold cut; simp [List.map_take, List.map_drop]
@[simp] theorem cutD_map (f : α → Val) (xs : List α) (lo hi : Option Int) : cutD (xs.map f) lo hi = (cut xs lo hi).map f := by rw [cutD_eq, cut_map]
theorem cut_nn (xs : List α) (i j : Nat) : cut xs (some (i : Int)) (some (j : Int)) = (xs.drop i).take (j - i) := by
  unfold cut
  rw [HT.sIx_nat, HT.sIx_nat]
  by_cases h1 : i ≤ xs.length
  · by_cases h2 : j ≤ xs.length
    · rw [Nat.min_eq_left h1, Nat.min_eq_left h2]
    · rw [Nat.min_eq_left h1, Nat.min_eq_right (by omega)]
      rw [List.take_of_length_le (by rw [List.length_drop]; omega), List.take_of_length_le (by rw [List.length_drop]; omega)]
  · rw [Nat.min_eq_right (show xs.length ≤ i by omega), List.drop_eq_nil_of_le (Nat.le_refl _), List.drop_eq_nil_of_le (show xs.length ≤ i by omega)]
    simp
theorem cut_n (xs : List α) (i : Nat) : cut xs (some (i : Int)) none = xs.drop i := by
  unfold cut
  rw [HT.sIx_nat, HT.sIx_none]
  by_cases h1 : i ≤ xs.length
  · rw [Nat.min_eq_left h1, List.take_of_length_le (by rw [List.length_drop]; exact Nat.le_refl _)]
  · rw [Nat.min_eq_right (by omega), List.drop_eq_nil_of_le (Nat.le_refl _), List.drop_eq_nil_of_le (by omega)]
    simp
theorem cut_1 (xs : List α) : cut xs (some 1) none = xs.tail := by
  have := cut_n xs 1
  simpa using this
@[simp] theorem oSl_t (vs : List Val) (lo hi : Option Int) : oSl (.tup vs) lo hi = .ok (.tup (cutD vs lo hi), false) := rfl
@[simp] theorem oSl_l (vs : List Val) (lo hi : Option Int) : oSl (.lst vs) lo hi = .ok (.lst (cutD vs lo hi), true) := rfl
theorem setV_l (vs : List Val) (i : Nat) (w : Val) (h : i < vs.length) : setV (.lst vs) (.int i) w = some (.lst (vs.set i w)) := by
  show (ixN vs.length i).map _ = _
  rw [ixN_nat _ _ h]; rfl
/-! ### ranges -/
theorem rg_small {i : Int} (h : -1000000 ≤ i) (h2 : i ≤ 20000000) : rgOk i = true := by
  unfold rgOk; exact decide_eq_true (by omega)
def iup (lo : Int) (n : Nat) : List Int := (List.range n).map fun (i : Nat) => lo + (i : Int)
theorem upto_enc (lo : Int) (n : Nat) : upto lo n = (iup lo n).map enc := by
  unfold upto iup; rw [List.map_map]; rfl
theorem rangeV_1 (j : Int) (h : rgOk j = true) : rangeV [.int j] = some (upto 0 j.toNat) := if_pos h
theorem rangeV_2 (i j : Int) (h : rgOk i = true) (h2 : rgOk j = true) : rangeV [.int i, .int j] = some (upto i (j - i).toNat) := if_pos (by rw [h, h2]; rfl)
theorem rangeV_3 (i j : Int) (h : rgOk i = true) (h2 : rgOk j = true) : rangeV [.int i, .int j, .int (-1)] = some (stepto i (-1) (i - j).toNat) := if_pos (by rw [h, h2]; rfl)
theorem rg_nat {n : Nat} (h : n ≤ 20000000) : rgOk (n : Int) = true := rg_small (by omega) (by omega)
theorem upto_nat (a n : Nat) : upto (a : Int) n = (List.range' a n).map enc := by
  unfold upto
  rw [List.range'_eq_map_range, List.map_map]
  apply List.map_congr_left
  intro i _
  show Val.int _ = Val.int _
  simp
theorem range_1 (n : Nat) (h : n ≤ 20000000) : rangeV [.int (n : Int)] = some ((List.range n).map enc) := by
  rw [rangeV_1 _ (rg_nat h)]
  have := upto_nat 0 n
  rw [← List.range_eq_range'] at this
  simpa using this
theorem range_2 (a b : Nat) (h : a ≤ 20000000) (h2 : b ≤ 20000000) : rangeV [.int (a : Int), .int (b : Int)] = some ((List.range' a (b - a)).map enc) := by
  rw [rangeV_2 _ _ (rg_nat h) (rg_nat h2), upto_nat]
  congr 4
  omega
theorem range_3 (n : Nat) (h : n ≤ 20000000) : rangeV [.int ((n : Int) - 1), .int (-1), .int (-1)] = some ((List.range n).map enc).reverse := by
  rw [← List.map_reverse]
  rw [rangeV_3 _ _ (rg_small (by omega) (by omega)) (rg_small (by omega) (by omega))]
  unfold stepto
  rw [show ((n : Int) - 1 - -1).toNat = n by omega]
  apply congrArg some
  apply List.ext_getElem
  · simp
  · intro i h1 h2
    simp at h1 h2 ⊢
    omega
@[simp] theorem seqV_l (vs : List Val) : seqV (.lst vs) = some vs := rfl
@[simp] theorem seqV_t (vs : List Val) : seqV (.tup vs) = some vs := rfl
/-! ### the best of -/
def best1 (lt : α → α → Bool) (x : α) (xs : List α) : α := xs.foldl (fun a y => if lt y a then y else a) x
theorem minV_map [OV α] : ∀ (xs : List α) (x : α), minV (enc x) (xs.map enc) = enc (best1 OV.lt x xs)
  | [], x => rfl
  | y :: xs, x => by
    unfold minV best1
    rw [List.map_cons, List.foldl_cons, List.foldl_cons]
    have e : ltV (enc y) (enc x) = OV.lt y x := OV.ltv y x
    have := minV_map xs (if OV.lt y x = true then y else x)
    unfold minV best1 at this
    rw [e, ← this]
    split <;> rfl
theorem maxV_map [OV α] : ∀ (xs : List α) (x : α), maxV (enc x) (xs.map enc) = enc (best1 (fun y a => OV.lt a y) x xs)
  | [], x => rfl
  | y :: xs, x => by
    unfold maxV best1
    rw [List.map_cons, List.foldl_cons, List.foldl_cons]
    have e : ltV (enc x) (enc y) = OV.lt x y := OV.ltv x y
    have := maxV_map xs (if OV.lt x y = true then y else x)
    unfold maxV best1 at this
    rw [e, ← this]
    split <;> rfl
theorem alikes_map [OV α] (xs : List α) : alikesV (xs.map enc) = true := by
  unfold alikesV
  rw [List.all_map, List.all_eq_true]
  intro a _
  simp only [Function.comp, List.all_map, List.all_eq_true]
  exact fun b _ => OV.alk a b
theorem dataOk_map [EV α] (xs : List α) (h : EV.dep α ≤ 60) : dataOk (xs.map enc) = true := by
  unfold dataOk
  rw [lay_map, Bool.true_and]
  exact decide_eq_true (Nat.le_trans (dp_map xs) h)
theorem bestOk_map [OV α] (x : α) (xs : List α) (h : EV.dep α ≤ 60) : bestOk (enc x) (xs.map enc) = true := by
  unfold bestOk
  rw [← List.map_cons, dataOk_map _ h, alikes_map, List.all_map, Bool.true_and, Bool.true_and, List.all_eq_true]
  intro a _
  have := OV.nn a
  simp only [Function.comp]
theorem oMin_l [OV α] (x : α) (xs : List α) (h : EV.dep α ≤ 60) : oBest minV (.lst ((x :: xs).map enc)) = .ok (enc (best1 OV.lt x xs), false) := by
  show (if bestOk (enc x) (xs.map enc) then _ else _) = _
  rw [bestOk_map _ _ h, minV_map]; rfl
theorem oMin_t [OV α] (x : α) (xs : List α) (h : EV.dep α ≤ 60) : oBest minV (.tup ((x :: xs).map enc)) = .ok (enc (best1 OV.lt x xs), false) := by
  show (if bestOk (enc x) (xs.map enc) then _ else _) = _
  rw [bestOk_map _ _ h, minV_map]; rfl
theorem oMax_l [OV α] (x : α) (xs : List α) (h : EV.dep α ≤ 60) : oBest maxV (.lst ((x :: xs).map enc)) = .ok (enc (best1 (fun y a => OV.lt a y) x xs), false) := by
  show (if bestOk (enc x) (xs.map enc) then _ else _) = _
  rw [bestOk_map _ _ h, maxV_map]; rfl
theorem oMax_t [OV α] (x : α) (xs : List α) (h : EV.dep α ≤ 60) : oBest maxV (.tup ((x :: xs).map enc)) = .ok (enc (best1 (fun y a => OV.lt a y) x xs), false) := by
  show (if bestOk (enc x) (xs.map enc) then _ else _) = _
  rw [bestOk_map _ _ h, maxV_map]; rfl
theorem merge_map (f : α → β) (le : α → α → Bool) (le' : β → β → Bool) (h : ∀ a b, le' (f a) (f b) = le a b) (xs : List α) : (xs.map f).mergeSort le' = (xs.mergeSort le).map f := by
  exact (List.map_mergeSort (r := le) (s := le') (f := f) (l := xs) (fun a _ b _ => (h a b).symm)).symm
theorem sorted_of {vs : List Val} (h : sortOk vs = true) : oSorted (.lst vs) = .ok (.lst (sortV vs), true) := if_pos h
theorem oSorted_t [OV α] [DecidableEq α] (xs : List (List α)) (h : EV.dep (List α) ≤ 60) (hn : ∀ x ∈ xs, x ≠ []) : oSorted (.lst (xs.map enc)) = .ok (.lst ((xs.mergeSort fun a b => !OV.lt b a).map enc), true) := by
  rw [sorted_of, sortV, merge_map enc (fun a b => !OV.lt b a) leV fun a b => by unfold leV; rw [OV.ltv b a]]
  unfold sortOk
  rw [dataOk_map _ h, alikes_map, Bool.true_and, Bool.true_and, Bool.or_eq_true]
  left
  rw [List.all_eq_true]
  intro v hv
  obtain ⟨a, ha, rfl⟩ := List.mem_map.mp hv
  cases a with
  | nil => exact absurd rfl (hn _ ha)
  | cons y ys => rfl
theorem oSorted_i (xs : List Int) : oSorted (.lst (xs.map enc)) = .ok (.lst ((xs.mergeSort fun a b => decide (a ≤ b)).map enc), true) := by
  rw [sorted_of, sortV, merge_map enc (fun a b => decide (a ≤ b)) leV fun a b => ?_]
  rotate_left
  · unfold sortOk
    rw [dataOk_map _ (by decide), alikes_map, Bool.true_and, Bool.true_and, Bool.or_eq_true]
    right
    rw [List.all_eq_true]
    intro v hv
    obtain ⟨a, ha, rfl⟩ := List.mem_map.mp hv
    rfl
  · unfold leV
    rw [OV.ltv b a]
    show (!decide (b < a)) = decide (a ≤ b)
    by_cases h : a ≤ b
    · rw [decide_eq_true h, decide_eq_false (by omega)]; rfl
    · rw [decide_eq_false h, decide_eq_true (by omega)]; rfl
/-! ### in -/
theorem oInB_l [EV α] [DecidableEq α] (a : α) (xs : List α) (h : EV.dep α ≤ 64) : oInB (enc a) (.lst (xs.map enc)) = .ok (decide (a ∈ xs)) := by
  have : oInB (enc a) (.lst (xs.map enc)) = if okV (enc a) && PyData.canLayAll0 (toDs (xs.map enc)) then .ok ((xs.map enc).any fun z => eqV z (enc a)) else .bad := by
    unfold oInB; cases enc a <;> rfl
  rw [this, ok_enc a h, lay_map]
  simp only [Bool.and_self, if_true]
  congr 1
  rw [List.any_map]
  rw [Bool.eq_iff_iff, List.any_eq_true, decide_eq_true_iff]
  constructor
  · rintro ⟨x, hx, e⟩
    simp only [Function.comp] at e
    rw [(EV.eqv x a).mp e] at hx; exact hx
  · exact fun hx => ⟨a, hx, (EV.eqv a a).mpr rfl⟩
theorem oInB_t [EV α] [DecidableEq α] (a : α) (xs : List α) (h : EV.dep α ≤ 64) : oInB (enc a) (.tup (xs.map enc)) = .ok (decide (a ∈ xs)) := by
  have := oInB_l a xs h
  rw [← this]
  unfold oInB; cases enc a <;> rfl
/-! ### comprehensions over data of one kind -/
theorem lc_map {own : List Nat} {it : ID} {g : GD} {t : TD} {elt : ED} {env env1 : EnvD} (xs : List α) (e f : α → Val) (hit : it env = .ok (xs.map e, env1)) (hno : noOwn env1 own = true) (hlen : xs.length ≤ sizeLine)
    (h : ∀ x ∈ xs, (lcStep g t elt (e x) (wipeD env1 own)).Is fun z => z.1 = some (f x) ∧ wipeD z.2 own = wipeD env1 own) (hb : backD env1 (wipeD env1 own) own = env1) : dLc own it g t elt env = .ok (.lst (xs.map f), true, env1) := by
  unfold dLc
  rw [hit]
  simp only [res_ok_bind, hno, Bool.true_and, List.length_map, decide_eq_true hlen, if_true]
  have : ∀ (xs : List α) (acc : List Val), (∀ x ∈ xs, (lcStep g t elt (e x) (wipeD env1 own)).Is fun z => z.1 = some (f x) ∧ wipeD z.2 own = wipeD env1 own) → lcLoop own g t elt (xs.map e) (wipeD env1 own) acc = .ok (acc ++ xs.map f, wipeD env1 own) := fun xs => by
    induction xs with
    | nil => intro acc _; simp [lcLoop]
    | cons x xs ih =>
      intro acc h
      obtain ⟨z, h1, h2, h3⟩ := (h x (by simp)).ex
      obtain ⟨z1, z2⟩ := z
      simp only at h2 h3
      subst h2
      have := lc_pure1 (own := own) (g := g) (t := t) (elt := elt) (env0 := wipeD env1 own) (fun _ => some (f x)) [e x] acc fun v hv => by
        obtain rfl : v = e x := by simpa using hv
        exact ⟨_, h1, h3⟩
      have ih' := ih (acc ++ [f x]) fun y hy => h y (by simp [hy])
      rw [List.map_cons]
      unfold lcLoop at this ⊢
      unfold lcStep at h1
      cases q : g (e x) (wipeD env1 own) with
      | ok e1 =>
        rw [q] at h1
        simp only [res_ok_bind] at h1 ⊢
        cases q2 : t e1 with
        | ok y =>
          rw [q2] at h1
          simp only [res_ok_bind] at h1 ⊢
          cases q3 : y.1 with
          | true =>
            rw [q3] at h1
            simp only [if_true] at h1 ⊢
            cases q4 : elt y.2 with
            | ok u =>
              rw [q4] at h1
              simp only [res_ok_bind] at h1 ⊢
              injection h1 with h1
              injection h1 with ha hb
              injection ha with ha
              rw [hb, h3, ha, ih']
              simp
            | exc c p => rw [q4] at h1; cases h1
            | bad => rw [q4] at h1; cases h1
          | false =>
            rw [q3] at h1
            simp only [Bool.false_eq_true, if_false] at h1
            cases h1
        | exc c p => rw [q2] at h1; cases h1
        | bad => rw [q2] at h1; cases h1
      | exc c p => rw [q] at h1; cases h1
      | bad => rw [q] at h1; cases h1
  rw [this xs [] h]
  simp [noX, hb]
theorem lc_filter {own : List Nat} {it : ID} {g : GD} {t : TD} {elt : ED} {env env1 : EnvD} (xs : List α) (e f : α → Val) (p : α → Bool) (hit : it env = .ok (xs.map e, env1)) (hno : noOwn env1 own = true) (hlen : xs.length ≤ sizeLine)
    (h : ∀ x ∈ xs, (lcStep g t elt (e x) (wipeD env1 own)).Is fun z => z.1 = (if p x then some (f x) else none) ∧ wipeD z.2 own = wipeD env1 own) (hb : backD env1 (wipeD env1 own) own = env1) : dLc own it g t elt env = .ok (.lst ((xs.filter p).map f), true, env1) := by
  have key : ∃ ys : List (α × Bool), ys = xs.map (fun x => (x, p x)) := ⟨_, rfl⟩
  unfold dLc
  rw [hit]
  simp only [res_ok_bind, hno, Bool.true_and, List.length_map, decide_eq_true hlen, if_true]
  have : ∀ (xs : List α) (acc : List Val), (∀ x ∈ xs, (lcStep g t elt (e x) (wipeD env1 own)).Is fun z => z.1 = (if p x then some (f x) else none) ∧ wipeD z.2 own = wipeD env1 own) → lcLoop own g t elt (xs.map e) (wipeD env1 own) acc = .ok (acc ++ (xs.filter p).map f, wipeD env1 own) := fun xs => by
    induction xs with
    | nil => intro acc _; simp [lcLoop]
    | cons x xs ih =>
      intro acc h
      obtain ⟨z, h1, h2, h3⟩ := (h x (by simp)).ex
      obtain ⟨z1, z2⟩ := z
      simp only at h2 h3
      have ih1 := fun acc => ih acc fun y hy => h y (by simp [hy])
      rw [List.map_cons]
      unfold lcLoop
      unfold lcStep at h1
      cases q : g (e x) (wipeD env1 own) with
      | ok e1 =>
        rw [q] at h1
        simp only [res_ok_bind] at h1 ⊢
        cases q2 : t e1 with
        | ok y =>
          rw [q2] at h1
          simp only [res_ok_bind] at h1 ⊢
          cases q3 : y.1 with
          | true =>
            rw [q3] at h1
            simp only [if_true] at h1 ⊢
            cases q4 : elt y.2 with
            | ok u =>
              rw [q4] at h1
              simp only [res_ok_bind] at h1 ⊢
              injection h1 with h1
              injection h1 with ha hb
              cases hp : p x with
              | true =>
                rw [hp, ← ha] at h2
                simp only [if_true] at h2
                injection h2 with h2
                rw [hb, h3, h2, ih1]
                simp [hp]
              | false =>
                rw [hp, ← ha] at h2
                simp at h2
            | exc c p => rw [q4] at h1; cases h1
            | bad => rw [q4] at h1; cases h1
          | false =>
            rw [q3] at h1
            simp only [Bool.false_eq_true, if_false] at h1 ⊢
            injection h1 with h1
            injection h1 with ha hb
            cases hp : p x with
            | true => rw [hp, ← ha] at h2; simp at h2
            | false =>
              rw [hb, h3, ih1]
              simp [hp]
        | exc c p => rw [q2] at h1; cases h1
        | bad => rw [q2] at h1; cases h1
      | exc c p => rw [q] at h1; cases h1
      | bad => rw [q] at h1; cases h1
  rw [this xs [] h]
  simp [noX, hb]
@[simp] theorem oAll_f (xs : List α) (p : α → Bool) : oAll (.lst (xs.map fun x => .bl (p x))) = .ok (.bl (xs.all p), false) := by
  have := oAll_l (xs.map p)
  rw [List.map_map] at this
  rw [show (fun x => Val.bl (p x)) = Val.bl ∘ p from rfl, this, List.all_map]; rfl
@[simp] theorem oSum_f (xs : List α) (p : α → Int) : oSum (.lst (xs.map fun x => .int (p x))) = .ok (.int (xs.map p).sum, false) := by
  have := oSum_l (xs.map p)
  rw [List.map_map] at this
  exact this
/-! ### loops over data of one kind -/
/-- a loop that adds f x for each x with p x -/
theorem for_app {S : Type} {g : GD} {b : SD} (E : List Val → S → EnvD) (e : α → Val) (p : α → Bool) (f : α → Val) : ∀ (xs : List α), (∀ x ∈ xs, ∀ acc tl, acc.length < sizeLine → (g (e x) (E acc tl) >>= b).Is fun r => ∃ tl', r = .nx (E (if p x then acc ++ [f x] else acc) tl')) →
    ∀ acc tl, acc.length + xs.length ≤ sizeLine → ∃ tl', forLoop g b (xs.map e) (E acc tl) = .ok (.nx (E (acc ++ (xs.filter p).map f) tl'))
  | [], h, acc, tl, _ => ⟨tl, by simp [forLoop]⟩
  | x :: xs, h, acc, tl, hl => by
    rw [List.length_cons] at hl
    have h1 := h x (by simp) acc tl (by omega)
    rw [is_bind] at h1
    obtain ⟨e1, q1, h2⟩ := h1.ex
    obtain ⟨r, q2, tl1, h3⟩ := h2.ex
    subst h3
    obtain ⟨tl', h4⟩ := for_app E e p f xs (fun y hy => h y (by simp [hy])) (if p x then acc ++ [f x] else acc) tl1 (by split <;> (try simp) <;> omega)
    refine ⟨tl', ?_⟩
    rw [List.map_cons]
    unfold forLoop
    rw [q1]
    simp only [res_ok_bind]
    rw [q2]
    simp only [res_ok_bind]
    rw [h4]
    cases hp : p x <;> simp [hp]
/-- a loop that folds -/
theorem for_step {S : Type} {g : GD} {b : SD} (E : S → EnvD) (e : α → Val) (st : S → α → S) : ∀ (xs : List α), (∀ x ∈ xs, ∀ s, (g (e x) (E s) >>= b).Is fun r => r = .nx (E (st s x))) → ∀ s, forLoop g b (xs.map e) (E s) = .ok (.nx (E (xs.foldl st s)))
  | [], h, s => rfl
  | x :: xs, h, s => by
    have h1 := h x (by simp) s
    rw [is_bind] at h1
    obtain ⟨e1, q1, h2⟩ := h1.ex
    obtain ⟨r, q2, h3⟩ := h2.ex
    subst h3
    rw [List.map_cons]
    unfold forLoop
    rw [q1]
    simp only [res_ok_bind]
    rw [q2]
    simp only [res_ok_bind]
    exact for_step E e st xs (fun y hy => h y (by simp [hy])) _
/-- a table that is filled from behind -/
def tab (T : Nat → Val) (init : Val) (n k : Nat) : List Val := (List.range (n + 1)).map fun j => if k ≤ j then T j else init
theorem tab_len (T : Nat → Val) (init : Val) (n k : Nat) : (tab T init n k).length = n + 1 := by simp [tab]
theorem tab_top (T : Nat → Val) (init : Val) (n : Nat) : tab T init n n = List.replicate n init ++ [T n] := by
  unfold tab
  rw [List.range_succ, List.map_append]
  congr 1
  · apply List.ext_getElem
    · simp
    · intro i h1 h2
      simp at h1 h2 ⊢
      omega
  · simp
theorem tab_at (T : Nat → Val) (init : Val) (n k e : Nat) (h : k ≤ e) (h2 : e ≤ n) : atI (tab T init n k) (e : Int) = some (T e) := by
  rw [atI_nat' (by rw [tab_len]; omega)]
  simp [tab, h]
theorem tab_set (T : Nat → Val) (init : Val) (n k : Nat) (h : k < n) : (tab T init n (k + 1)).set k (T k) = tab T init n k := by
  apply List.ext_getElem
  · simp [tab]
  · intro i h1 h2
    rw [List.getElem_set]
    simp [tab]
    split
    · rename_i e; subst e; simp
    · rename_i e
      by_cases h3 : k ≤ i
      · rw [if_pos (by omega), if_pos h3]
      · rw [if_neg (by omega), if_neg h3]
theorem tab_all (T : Nat → Val) (init : Val) (n : Nat) : tab T init n 0 = (List.range (n + 1)).map T := by simp [tab]
theorem rev_at {n i : Nat} (h : i < n) : ((List.range n).reverse)[i]? = some (n - 1 - i) := by
  rw [List.getElem?_eq_getElem (by simpa using h)]
  simp
/-- the loop that fills it -/
theorem for_tab {S : Type} {g : GD} {b : SD} (E : List Val → S → EnvD) (T : Nat → Val) (init : Val) (n : Nat)
    (h : ∀ k, k < n → ∀ tl, (g (enc k) (E (tab T init n (k + 1)) tl) >>= b).Is fun r => ∃ tl', r = .nx (E (tab T init n k) tl')) (tl : S) :
    ∃ tl', forLoop g b ((List.range n).map enc).reverse (E (tab T init n n) tl) = .ok (.nx (E ((List.range (n + 1)).map T) tl')) := by
  rw [← List.map_reverse]
  have := for_inv (g := g) (b := b) (Q := fun r => ∃ tl', r = .nx (E ((List.range (n + 1)).map T) tl')) ((List.range n).reverse.map enc) (fun i env => i ≤ n ∧ ∃ tl, env = E (tab T init n (n - i)) tl) (E (tab T init n n) tl) ⟨by omega, tl, rfl⟩ (fun i hi env hI => ?_) (fun env hI => ?_)
  · obtain ⟨r, h1, tl', h2⟩ := this.ex
    exact ⟨tl', by rw [h1, h2]⟩
  · obtain ⟨h1, tl, rfl⟩ := hI
    simp at hi
    have q := h (n - 1 - i) (by omega) tl
    rw [show n - 1 - i + 1 = n - i by omega] at q
    rw [show ((List.range n).reverse.map enc)[i] = enc (n - 1 - i) by simp]
    refine q.mono fun r ⟨tl', e⟩ => ?_
    subst e
    exact ⟨by omega, tl', by rw [show n - (i + 1) = n - 1 - i by omega]⟩
  · obtain ⟨_, tl, rfl⟩ := hI
    refine ⟨tl, ?_⟩
    simp [tab_all]
end
end PV

namespace PV
open PySem PySem.Spec PyProof.Rows L2
open EV (enc)
section
variable {α β : Type}
/-- comprehensions whose walked thing changes no name -/
theorem lcM {own : List Nat} {it : ID} {g : GD} {t : TD} {elt : ED} {env : EnvD} (xs : List α) (e f : α → Val) (hit : it env = .ok (xs.map e, env)) (hlen : xs.length ≤ sizeLine) (h : ∀ x ∈ xs, (lcStep g t elt (e x) (wipeD env own)).Is fun z => z.1 = some (f x) ∧ wipeD z.2 own = wipeD env own) (hno : noOwn env own = true)
    (hb : backD env (wipeD env own) own = env) : dLc own it g t elt env = .ok (.lst (xs.map f), true, env) := lc_map (env1 := env) xs e f hit hno hlen h hb
theorem lcF {own : List Nat} {it : ID} {g : GD} {t : TD} {elt : ED} {env : EnvD} (xs : List α) (e f : α → Val) (p : α → Bool) (hit : it env = .ok (xs.map e, env)) (hlen : xs.length ≤ sizeLine) (h : ∀ x ∈ xs, (lcStep g t elt (e x) (wipeD env own)).Is fun z => z.1 = (if p x then some (f x) else none) ∧ wipeD z.2 own = wipeD env own) (hno : noOwn env own = true)
    (hb : backD env (wipeD env own) own = env) : dLc own it g t elt env = .ok (.lst ((xs.filter p).map f), true, env) := lc_filter (env1 := env) xs e f p hit hno hlen h hb
end
/-! ### a datum told by a look -/
mutual
def sameV : Val → Val → Bool
  | .non, .non => true
  | .bl a, .bl b => a == b
  | .int a, .int b => decide (a = b)
  | .str a, .str b => decide (a.cps.toList = b.cps.toList)
  | .ty a, .ty b => decide (a = b)
  | .tup vs, .tup ws => sameVs vs ws
  | .lst vs, .lst ws => sameVs vs ws
  | _, _ => false
def sameVs : List Val → List Val → Bool
  | [], [] => true
  | v :: vs, w :: ws => sameV v w && sameVs vs ws
  | _, _ => false
end
mutual
theorem sameV_eq : ∀ (v w : Val), sameV v w = true → v = w
  | .non, w, h => by cases w <;> simp_all [sameV]
  | .bl a, w, h => by cases w <;> simp_all [sameV]
  | .int a, w, h => by cases w <;> simp_all [sameV]
  | .str a, w, h => by
    cases w <;> simp_all [sameV]
    rename_i b
    cases a; cases b; simp_all
  | .ty a, w, h => by cases w <;> simp_all [sameV]
  | .tup vs, w, h => by
    cases w <;> simp [sameV] at h
    rw [sameVs_eq vs _ h]
  | .lst vs, w, h => by
    cases w <;> simp [sameV] at h
    rw [sameVs_eq vs _ h]
  | .glo _, w, h => by cases w <;> simp [sameV] at h
  | .scr _, w, h => by cases w <;> simp [sameV] at h
  | .rng _ _, w, h => by cases w <;> simp [sameV] at h
  | .dK _, w, h => by cases w <;> simp [sameV] at h
  | .dT _, w, h => by cases w <;> simp [sameV] at h
theorem sameVs_eq : ∀ (vs ws : List Val), sameVs vs ws = true → vs = ws
  | [], ws, h => by cases ws <;> simp_all [sameVs]
  | v :: vs, [], h => by simp [sameVs] at h
  | v :: vs, w :: ws, h => by
    simp only [sameVs, Bool.and_eq_true] at h
    rw [sameV_eq v w h.1, sameVs_eq vs ws h.2]
end
/-- a closed result, by the kernel's own reckoning -/
def isRes (r : Res (Val × Bool)) (v : Val) (o : Bool) : Bool := match r with
  | .ok (u, p) => sameV u v && p == o
  | _ => false
theorem isRes_eq {r : Res (Val × Bool)} {v : Val} {o : Bool} (h : isRes r v o = true) : r = .ok (v, o) := by
  unfold isRes at h
  split at h
  · rw [Bool.and_eq_true] at h
    rw [sameV_eq _ _ h.1]
    have := h.2
    simp at this
    rw [this]
  · cases h
end PV

namespace PV
open PySem PySem.Spec PyProof.Rows L2
/-! ### v[::-1] of a list, a tuple, a text -/
theorem fm_congr {α β : Type} {f g : α → Option β} : ∀ {l : List α}, (∀ x ∈ l, f x = g x) → l.filterMap f = l.filterMap g
  | [], _ => rfl
  | x :: l, h => by rw [List.filterMap_cons, List.filterMap_cons, h x (by simp), fm_congr fun y hy => h y (by simp [hy])]
theorem pick_rev (xs : Array Value) : ((List.range xs.size).filterMap fun (m : Nat) => xs[(((xs.size : Int) - 1) + (m : Int) * (-1)).toNat]?).toArray = xs.toList.reverse.toArray := by
  have e : (List.range xs.size).filterMap (fun (m : Nat) => xs[(((xs.size : Int) - 1) + (m : Int) * (-1)).toNat]?) = ((List.range xs.size).map fun k => xs.size - 1 - k).filterMap (xs[·]?) := by
    rw [List.filterMap_map]
    refine fm_congr fun m hm => ?_
    have hm := List.mem_range.mp hm
    show xs[_]? = xs[xs.size - 1 - m]?
    congr 1
    omega
  rw [e, PySem.W.krv_range, List.filterMap_reverse, PySem.W.krv_all]
theorem places_rev (n : Nat) : Builtin.Slice.slicePlaces ((n : Int) - 1) (-1) (-1) = n := by
  unfold Builtin.Slice.slicePlaces
  rw [if_neg (by decide)]
  split
  · simp
  · omega
section
variable {prog : Program} {w : World} {A : Around} {E : Value → Shared → Prop} {s : Shared}
theorem sliceApplied_rev {sl : Addr} {vl vu vs : Value} {n : Nat} {Q : Int × Int × Nat → Shared → Prop} (hs : s.heap.IsSliceOf sl vl vu vs) (pl : IsPart vl none) (pu : IsPart vu none) (ps : IsPart vs (some (-1)))
    (h : Q ((n : Int) - 1, -1, n) s) : wpAny (model prog w) A (Builtin.Slice.sliceApplied (.ref sl) (pure (n : Int))) Q E s := by
  obtain ⟨ob, h1, h2, h3⟩ := id hs
  unfold Builtin.Slice.sliceApplied Builtin.Slice.sliceFields
  refine wpAny_bind (wpAny_bind (wpAny_field h1 h3 (x := vl) rfl (wpAny_bind (wpAny_field h1 h3 (x := vu) rfl (wpAny_bind (wpAny_field h1 h3 (x := vs) rfl (wpAny_pure ?_)))))))
  refine wpAny_bind (HT.slicePart_ ps ?_)
  show wpAny _ _ (if ((-1 : Int) == 0) = true then _ else _) _ _ s
  rw [if_neg (by decide)]
  refine wpAny_bind (HT.slicePart_ pl (wpAny_bind (HT.slicePart_ pu (wpAny_bind (wpAny_pure ?_)))))
  show wpAny _ _ (pure ((n : Int) - 1, (-1 : Int), Builtin.Slice.slicePlaces ((n : Int) - 1) (-1) (-1))) _ _ s
  rw [places_rev]
  exact wpAny_pure h
/-- what a slice that starts at a, steps by st and has m places takes -/
def taken (its : Array Value) (a st : Int) (m : Nat) : Array Value := ((List.range m).filterMap fun (k : Nat) => its[(a + (k : Int) * st).toNat]?).toArray
/-- a tuple under a slice that is not the whole of it -/
theorem tuple_sliced {t sl : Addr} {its : Array Value} {a st : Int} {m : Nat} {Q : Value → Shared → Prop} (ht : IsTup s.heap t its) (hsl : s.TypeIs (.ref sl) "slice")
    (cut : ∀ {Q' : Int × Int × Nat → Shared → Prop}, Q' (a, st, m) s → wpAny (model prog w) A.in1 (Builtin.Slice.sliceApplied (.ref sl) (pure (its.size : Int))) Q' E s) (part : (a == 0 && st == 1 && m == its.size) = false)
    (fits : (taken its a st m).size ≤ sizeLine) (q : Q (.ref s.heap.objs.size) { s with heap := s.heap.push { cls := .type "tuple", data := .seq (taken its a st m) } }) : wpAny (model prog w) A (getItem (.ref t) (.ref sl)) Q E s := by
  have made : wpAny (model prog w) A.in1 (Builtin.Tuple.tupleExact (taken its a st m)) (fun v s1 => ∃ u, Fin.done (.ret v) = .done (.ret u) ∧ Q u s1) E s := wpAny_newObj_type ⟨_, rfl, q⟩ fits
  have body : wpAny (model prog w) A.in1 (Builtin.«tuple.__getitem__» ⟨[.ref t, .ref sl], []⟩) (fun fin s1 => ∃ v, fin = .done (.ret v) ∧ Q v s1) E s := by
    show wpAny _ _ (Builtin.Tuple.tupleItemsOf (.ref t) >>= _) _ _ s
    refine wpAny_bind (PyProof.Rows.tupleItemsOf_ ht (wpAny_bind (wpAny_typeOf hsl (wpAny_ite_true (by decide) (wpAny_bind (cut ?_))))))
    refine wpAny_ite_false (by rw [part]; rfl) (wpAny_bind (wpAny_mono made (fun v s1 h => wpAny_pure h) fun _ _ e => e))
  have special := wpAny_callSpecial?_slot (Q := fun r s1 => ∃ v, r = some v ∧ Q v s1) ht.typeIs PyProof.Rows.slot_tuple_getitem (args := [.ref sl]) (kw := []) (wpAny_mono (wpAny_call_entry PyProof.Rows.slot_tuple_getitem ht.typeIs PyProof.Rows.entry_tuple_getitem body (PyProof.Rows.args_tuple_getitem _ _)) (fun v _ h => ⟨v, rfl, h⟩) fun _ _ e => e)
  refine wpAny_holding (wpAny_bind (wpAny_sequenceKey ht.typeIs (by decide) (wpAny_bind (wpAny_mono special ?_ fun _ _ e => e))))
  rintro _ s1 ⟨v, rfl, h⟩
  exact wpAny_pure h
theorem getItem_tuple_rev {t sl : Addr} {its : Array Value} {vl vu vs : Value} {Q : Value → Shared → Prop} (ht : IsTup s.heap t its) (hs : s.heap.IsSliceOf sl vl vu vs) (pl : IsPart vl none) (pu : IsPart vu none) (ps : IsPart vs (some (-1)))
    (h : Q (.ref s.heap.objs.size) { s with heap := s.heap.push { cls := .type "tuple", data := .seq its.toList.reverse.toArray } }) (hz : its.size ≤ sizeLine) : wpAny (model prog w) A (getItem (.ref t) (.ref sl)) Q E s := by
  have back : taken its ((its.size : Int) - 1) (-1) its.size = its.toList.reverse.toArray := pick_rev its
  have ⟨o, e1, e2, _⟩ := hs
  refine tuple_sliced (a := (its.size : Int) - 1) (st := -1) (m := its.size) ht ⟨o, e1, e2⟩ (fun q => sliceApplied_rev hs pl pu ps q) (by simp) ?_ ?_
  · rw [back]; simpa using hz
  · rw [back]; exact h
end
/-- a text from behind -/
def revS (z : Str) : Str := ⟨z.cps.toList.reverse.toArray⟩
theorem picked_rev (z : Str) (u : Tok) : (slicePicked z none none (some (-1, u))).filterMap (z.cps[·]?) = z.cps.toList.reverse := by
  have e : slicePicked z none none (some (-1, u)) = (List.range z.cps.size).map fun k => z.cps.size - 1 - k := PySem.W.krv_sliceRange z.cps.size
  rw [e, PySem.W.krv_range, List.filterMap_reverse, PySem.W.krv_all]
def rRev (K : PySem.W.Frag) : V → Hp → VK → Prop := fun x H Q => (∃ a xs, x = .ref a ∧ SqL K H a xs ∧ ∀ p, H p = none → Q (.ref p) (upd H p (.lst xs.reverse))) ∨
  (∃ a xs, x = .ref a ∧ SqT K H a xs ∧ ∀ p, H p = none → Q (.ref p) (upd H p (.tup xs.reverse))) ∨ ∃ z : Str, x = .str z ∧ z.length ≤ sizeLine ∧ Q (.str (revS z)) H
def tRev (K : PySem.W.Frag) (te : TE) : TE := fun σ H Q => te σ H fun x H1 => rRev K x H1 Q
section
variable {X : Cx} {e : Expr} {te : TE} {k : Nat} {p1 p2 p3 pos : Pos}
theorem pe_rev (he : PE X e te) : PE X (.Subscript e (.Slice none none (some (.UnaryOp .USub (.Constant (.int 1) k p1) p2)) p3) pos) (tRev X.K te) := by
  refine ⟨fun pins s σ H Q I h => Subscript_ (thn (he.run pins s σ H _ I h) fun v s1 ⟨x, H1, I1, r1, hx⟩ => ?_)⟩
  have step : PO X (some (.UnaryOp .USub (.Constant (.int 1) k p1) p2)) (tPart (tUn (rU fun i => .int (-i)) (tC (.int 1)))) := po_some (pe_un un_neg pe_int)
  refine wpAny_Slice (thn (po_none.run pins s1 σ H1 (fun o G => o = none ∧ G = H1) I1 ⟨rfl, rfl⟩) fun vl s2 ⟨l, H2, I2, pl, el, e2⟩ => ?_)
  subst el e2
  refine thn (po_none.run pins s2 σ H2 (fun o G => o = none ∧ G = H2) I2 ⟨rfl, rfl⟩) fun vu s3 ⟨u, H3, I3, pu, eu, e3⟩ => ?_
  subst eu e3
  refine thn (step.run pins s3 σ H3 (fun o G => o = some (-1) ∧ G = H3) I3 ⟨1, rfl, -1, rfl, rfl, rfl⟩) fun vs s4 ⟨o, H4, I4, ps, eo, e4⟩ => ?_
  subst eo e4
  have J : L2.Inv X pins σ H4 { s4 with heap := s4.heap.push { cls := .type "slice", data := .fields #[vl, vu, vs] } } := I4.kept (t' := s4.toks) fun b ob q => Heap.get?_push_of_some _ q
  rcases hx with ⟨a, xs, rfl, hx, q⟩ | ⟨a, xs, rfl, hx, q⟩ | ⟨z, rfl, hz, q⟩
  · cases r1
    obtain ⟨its, r, ht, hz⟩ := J.list hx
    have hl := r.length
    show wpAny (model X.prog X.w) X.A (subscriptTail e (.Slice none none (some (.UnaryOp .USub (.Constant (.int 1) k p1) p2)) p3) (.ref a) (.ref s4.heap.objs.size)) (EP X pins σ Q) X.xe { s4 with heap := _ }
    refine tail_any (ops := [.ref a, .ref s4.heap.objs.size]) ht.isList.typeIs (PySem.slot_list_getitem.lookup) ?_ (by with_unfolding_all rfl)
    refine wpAny_getItem_list_slice ht.isList (Heap.IsSliceOf.new _ vl vu vs) pl pu ps (by decide) ?_ (by rw [List.size_toArray]; omega)
    rw [PySem.W.krv_pick]
    exact ⟨.ref _, _, J.laid (t' := s4.toks) (o := .lst xs.reverse) (fun b ob q => Heap.get?_push_of_some _ q) (Nat.le_refl _) ⟨by rw [List.length_reverse]; exact hz, _, 0, r.reverse, Heap.get?_push_size _ rfl⟩, rfl, q _ (J.hok.fresh (Nat.le_refl _))⟩
  · cases r1
    obtain ⟨its, r, ht, hz⟩ := J.tuple hx
    have hl := r.length
    show wpAny (model X.prog X.w) X.A (subscriptTail e (.Slice none none (some (.UnaryOp .USub (.Constant (.int 1) k p1) p2)) p3) (.ref a) (.ref s4.heap.objs.size)) (EP X pins σ Q) X.xe { s4 with heap := _ }
    refine tail_any (ops := [.ref a, .ref s4.heap.objs.size]) ht.typeIs (PyProof.Rows.slot_tuple_getitem.lookup) ?_ (by with_unfolding_all rfl)
    refine getItem_tuple_rev ht (Heap.IsSliceOf.new _ vl vu vs) pl pu ps ?_ (by rw [List.size_toArray]; omega)
    exact ⟨.ref _, _, J.laid (t' := s4.toks) (o := .tup xs.reverse) (fun b ob q => Heap.get?_push_of_some _ q) (Nat.le_refl _) ⟨by rw [List.length_reverse]; exact hz, _, r.reverse, IsTup.new _ _⟩, rfl, q _ (J.hok.fresh (Nat.le_refl _))⟩
  · obtain ⟨t, rfl⟩ := r1
    cases pl
    cases pu
    cases ps with
    | int _ tc =>
      show wpAny (model X.prog X.w) X.A (subscriptTail e (.Slice none none (some (.UnaryOp .USub (.Constant (.int 1) k p1) p2)) p3) (.str z t) (.ref s4.heap.objs.size)) (EP X pins σ Q) X.xe { s4 with heap := _ }
      refine tail_any (ops := [.str z t, .ref s4.heap.objs.size]) (typeIs_str _ _ _) (F.slot_str_getitem.lookup) ?_ (by with_unfolding_all rfl)
      refine wpAny_getItem_str_slice (l := none) (u := none) (st := some (-1, tc)) ⟨_, Heap.get?_push_size _ rfl, rfl, rfl⟩ rfl ?_
      unfold sliceMade
      rw [if_neg (by intro hh; rw [Bool.and_eq_true] at hh; exact absurd hh.1 (by show ¬ (((-1 : Int) == 1) = true); decide)), picked_rev]
      exact ⟨by show z.cps.toList.reverse.toArray.size ≤ sizeLine; rw [List.size_toArray, List.length_reverse, Array.length_toList]; exact hz, .str (revS z), H4, J.tok _, ⟨_, rfl⟩, q⟩
end
/-! ### .. told -/
def oRev : Val → Res (Val × Bool)
  | .lst vs => .ok (.lst vs.reverse, true)
  | .tup vs => .ok (.tup vs.reverse, false)
  | .str z => if z.length ≤ sizeLine then .ok (.str (revS z), false) else .bad
  | _ => .bad
theorem s_rev {K : PySem.W.Frag} : OpS1 K (rRev K) oRev := by
  intro H A v x al hv
  cases v <;> try exact bad_ans
  case lst vs =>
    rw [rp_lst] at hv
    obtain ⟨a, xs, rfl, _, ha, l, z⟩ := hv
    exact fun Q q => .inl ⟨a, xs, rfl, SqL.of ha, fun p hp => q _ _ (same_upd hp) (new_lst hp l.reverse (by rw [List.length_reverse]; exact z))⟩
  case tup vs =>
    rw [rp_tup] at hv
    obtain ⟨a, xs, rfl, _, ha, l, z⟩ := hv
    exact fun Q q => .inr (.inl ⟨a, xs, rfl, SqT.of ha, fun p hp => q _ _ (same_upd hp) (new_tup al hp l.reverse (by rw [List.length_reverse]; exact z))⟩)
  case str s =>
    rw [rp_str] at hv; subst hv
    show Ans _ _ _ _ (if s.length ≤ sizeLine then _ else _)
    split
    · rename_i z; exact ans_pure _ (fun _ => rp_str.mpr rfl) fun Q q => .inr (.inr ⟨s, rfl, z, q⟩)
    · exact bad_ans
theorem v_rev {X : Cx} {G : Cfg} {e : Expr} {d : ED} {k : Nat} {p1 p2 p3 pos : Pos} (he : PE X e (tE G d)) (hK : X.K = G.K := by rfl) : PE X (.Subscript e (.Slice none none (some (.UnaryOp .USub (.Constant (.int 1) k p1) p2)) p3) pos) (tE G (dUn oRev d)) := (pe_rev he).pv fun σ H Q h => by
  rw [hK]
  exact tE_un s_rev h
end PV

namespace PV
open PySem PySem.Spec PyProof.Rows L2
/-! ### s.m(v) -/
/-- a text's method of one argument: soundness of f for the rule r -/
def OpSM (K : PySem.W.Frag) (r : V → List V → Hp → VK → Prop) (f : Str → Val → Res (Val × Bool)) : Prop :=
  ∀ H A s w y, (∀ a, A a → H a ≠ none) → Rp K H A w y → Ans K H A (r (.str s) [y]) (f s w)
def dSM (f : Str → Val → Res (Val × Bool)) (da db : ED) : ED := fun env => da env >>= fun a => match a.1 with
  | .str s => db a.2.2 >>= fun b => f s b.1 >>= fun z => .ok (z.1, z.2, b.2.2)
  | _ => .bad
section
variable {X : Cx} {G : Cfg} {o e : Expr} {da db : ED} {apos pos : Pos}
theorem tE_SM {r : V → List V → Hp → VK → Prop} {f : Str → Val → Res (Val × Bool)} (hs : OpSM G.K r f) {σ : L2.St} {H : Hp} {Q : VK} (h : tE G (dSM f da db) σ H Q) : tM1 r (tE G da) (tE G db) σ H Q := by
  obtain ⟨M, env, R, p⟩ := h
  refine Post.bindF R p fun v o e1 x M1 H1 x1 R1 r1 p1 => ?_
  cases v <;> try exact p1.elim
  rename_i s
  rw [rp_str] at r1; subst r1
  refine ⟨⟨s, rfl⟩, Post.bindF R1 p1 fun w o2 e2 y M2 H2 x2 R2 r2 p2 => ?_⟩
  exact fin_ans R2 (hs H2 _ s w y R2.al r2) p2
def strsV : List Val → Option (List Str)
  | [] => some []
  | .str s :: vs => (strsV vs).map (s :: ·)
  | _ => none
theorem strsV_map (ss : List Str) : strsV (ss.map .str) = some ss := by
  induction ss with
  | nil => rfl
  | cons s ss ih => simp [strsV, ih]
theorem strsV_rp {K : PySem.W.Frag} {H : Hp} {A : AP} : ∀ {vs : List Val} {xs : List V} {ss : List Str}, strsV vs = some ss → RpL K H A vs xs → xs = ss.map V.str
  | [], xs, ss, e, l => by rw [rpl_nil] at l; subst l; cases e; rfl
  | v :: vs, xs, ss, e, l => by
    rw [rpl_cons] at l
    obtain ⟨x, r, rfl, h1, h2⟩ := l
    cases v <;> try (cases e; done)
    rename_i s
    change (strsV vs).map (s :: ·) = some ss at e
    cases q : strsV vs with
    | none => rw [q] at e; cases e
    | some ts =>
      rw [q] at e; cases e
      rw [rp_str] at h1; subst h1
      rw [strsV_rp q h2]; rfl
def joinOk (a : Str) (ys : List Str) : Bool := decide ((ys.map (·.length)).sum + ys.length * a.length ≤ 16777216)
def oJoinL (a : Str) (vs : List Val) : Res (Val × Bool) := match strsV vs with
  | some ys => if joinOk a ys then .ok (.str (Txt.join a ys), false) else .bad
  | none => .bad
def oJoin (a : Str) : Val → Res (Val × Bool)
  | .lst vs => oJoinL a vs
  | .tup vs => oJoinL a vs
  | _ => .bad
def rJoin (K : PySem.W.Frag) : V → List V → Hp → VK → Prop := fun x xs H Q => ∃ a p, ∃ ys : List Str, x = .str a ∧ xs = [.ref p] ∧ (SqL K H p (ys.map V.str) ∨ SqT K H p (ys.map V.str)) ∧ (ys.map (·.length)).sum + ys.length * a.length ≤ 16777216 ∧ Q (.str (Txt.join a ys)) H
theorem s_join {K : PySem.W.Frag} : OpSM K (rJoin K) oJoin := fun H A s w y al hw => by
  have go : ∀ (vs : List Val) (p : Addr) (xs : List V), (SqL K H p xs ∨ SqT K H p xs) → RpL K H A vs xs → Ans K H A (rJoin K (.str s) [.ref p]) (oJoinL s vs) := fun vs p xs hs l => by
    unfold oJoinL
    split
    · rename_i ys e
      have ex := strsV_rp e l
      subst ex
      split
      · rename_i ok
        exact ans_pure _ (fun _ => rp_str.mpr rfl) fun Q q => ⟨s, p, ys, rfl, rfl, hs, of_decide_eq_true ok, q⟩
      · exact bad_ans
    · exact bad_ans
  cases w <;> try exact bad_ans
  case lst vs =>
    rw [rp_lst] at hw
    obtain ⟨a, xs, rfl, _, ha, l, z⟩ := hw
    exact go vs a xs (.inl (SqL.of ha)) l
  case tup vs =>
    rw [rp_tup] at hw
    obtain ⟨a, xs, rfl, _, ha, l, z⟩ := hw
    exact go vs a xs (.inr (SqT.of ha)) l
theorem v_join (ho : PE X o (tE G da)) (he : PE X e (tE G db)) (hK : X.K = G.K := by rfl) (hs : starEach [e] X.env = [(false, eval e X.env)] := by rfl) (hbase : attributeBase o "join" X.env (eval o X.env) = eval o X.env := by rfl) (hline : (apos.endLine == pos.line) = true := by rfl) :
    PE X (.Call (.Attribute o "join" apos) [e] [] pos) (tE G (dSM oJoin da db)) := (pe_join ho he hs hbase hline).pv fun σ H Q h => by
  rw [show X.K = G.K from hK]
  exact tE_SM s_join h
/-! count, find of a text -/
def oCountS (a : Str) : Val → Res (Val × Bool)
  | .str b => .ok (.int (Txt.count a b), false)
  | _ => .bad
def oFindS (a : Str) : Val → Res (Val × Bool)
  | .str b => .ok (.int (Txt.find a b), false)
  | _ => .bad
theorem s_countS {K : PySem.W.Frag} : OpSM K (fun x xs H Q => ∃ a b, x = .str a ∧ xs = [.str b] ∧ Q (.int (Txt.count a b)) H) oCountS := fun H A s w y al hw => by
  cases w <;> try exact bad_ans
  rename_i b
  rw [rp_str] at hw; subst hw
  exact ans_pure _ (fun _ => rp_int.mpr rfl) fun Q q => ⟨s, b, rfl, rfl, q⟩
theorem s_findS {K : PySem.W.Frag} : OpSM K (fun x xs H Q => ∃ a b, x = .str a ∧ xs = [.str b] ∧ Q (.int (Txt.find a b)) H) oFindS := fun H A s w y al hw => by
  cases w <;> try exact bad_ans
  rename_i b
  rw [rp_str] at hw; subst hw
  exact ans_pure _ (fun _ => rp_int.mpr rfl) fun Q q => ⟨s, b, rfl, rfl, q⟩
theorem v_find (ho : PE X o (tE G da)) (he : PE X e (tE G db)) (hs : starEach [e] X.env = [(false, eval e X.env)] := by rfl) (hbase : attributeBase o "find" X.env (eval o X.env) = eval o X.env := by rfl) (hline : (apos.endLine == pos.line) = true := by rfl) :
    PE X (.Call (.Attribute o "find" apos) [e] [] pos) (tE G (dSM oFindS da db)) := (pe_m1 F.slot_str_find F.type_str_find mt_find ho he hs hbase hline).pv fun σ H Q h => tE_SM s_findS h
end
/-- a body that is not gone into -/
theorem ss_noS {X : Cx} {G : Cfg} {pin : Pin} {body : List Stmt} : PSs X body (tS G pin sNo) := ⟨fun pins s σ H D I ⟨M, env, R, hp, p⟩ => p.elim⟩
/-! ### texts as data of one kind -/
theorem str_ext {a b : Str} (h : a.cps.toList = b.cps.toList) : a = b := by
  cases a; cases b; simp_all
end PV

namespace PH
open PySem PySem.Spec PyProof.Rows L2 PV
open EV (enc)
theorem szl {n : Nat} (h : n ≤ 1000000) : n ≤ sizeLine := by rw [show sizeLine = 16777216 from rfl]; omega
section
variable (a b c d e v : Val)
@[simp] theorem ix5_0 : oIx (.lst [a, b, c, d, e]) (.int 0) = .ok (a, false) := rfl
@[simp] theorem ix5_1 : oIx (.lst [a, b, c, d, e]) (.int 1) = .ok (b, false) := rfl
@[simp] theorem ix5_2 : oIx (.lst [a, b, c, d, e]) (.int 2) = .ok (c, false) := rfl
@[simp] theorem ix5_3 : oIx (.lst [a, b, c, d, e]) (.int 3) = .ok (d, false) := rfl
@[simp] theorem ix5_4 : oIx (.lst [a, b, c, d, e]) (.int 4) = .ok (e, false) := rfl
@[simp] theorem st5_1 : setV (.lst [a, b, c, d, e]) (.int 1) v = some (.lst [a, v, c, d, e]) := rfl
@[simp] theorem st5_2 : setV (.lst [a, b, c, d, e]) (.int 2) v = some (.lst [a, b, v, d, e]) := rfl
@[simp] theorem st5_3 : setV (.lst [a, b, c, d, e]) (.int 3) v = some (.lst [a, b, c, v, e]) := rfl
@[simp] theorem st5_4 : setV (.lst [a, b, c, d, e]) (.int 4) v = some (.lst [a, b, c, d, v]) := rfl
end
/-- the hand -/
def GH (h : Val) : Prop := ∃ (cells : List Int) (i c s n : Int), h = .lst [.lst (cells.map enc), .int i, .int c, .int s, .int n] ∧ 0 ≤ i
theorem mul_l {i j : Int} (h : i.natAbs < 2 ^ 64) : mulOk i j = true := by unfold mulOk; rw [decide_eq_true h]; rfl
theorem mul_r {i j : Int} (h : j.natAbs < 2 ^ 64) : mulOk i j = true := by unfold mulOk; rw [decide_eq_true h, Bool.or_true]
def kH : SR → Res (Val × Val) := fun r => match r with
  | SR.ret v false env => (match (env[0]? : Option PV.Slot) with
    | some (PV.Slot.own h') => .ok (v, h')
    | _ => .bad)
  | _ => .bad
@[simp] theorem kH_ret (v : Val) (h : Val) (env : EnvD) : kH (.ret v false (.own h :: env)) = .ok (v, h) := rfl
theorem runH_k {N m : Nat} {d : SD} {h : Val} {ws : List Val} {Q : Val × Val → Prop} (hl : ws.length + 1 = m) (q : (d (env0H N h ws) >>= kH).Is Q) : (runH N m d h ws).Is Q := by
  unfold runH
  rw [if_pos hl]
  cases e : d (env0H N h ws) with
  | ok r =>
    rw [e] at q
    cases r with
    | ret v o env => cases o <;> exact q
    | nx _ => exact q
    | brk _ => exact q
    | cnt _ => exact q
  | exc c p => rw [e] at q; exact q
  | bad => rw [e] at q; exact q
abbrev Drawn (many : Nat) (r : Val × Val) : Prop := ∃ d : Nat, r.1 = .int (d : Int) ∧ d < many ∧ GH r.2
theorem seq_k (d1 d2 : SD) (env : EnvD) (k : SR → Res (Val × Val)) : (sSeq d1 d2 env >>= k) = (d1 env >>= fun r => (match r with
  | .nx env => d2 env
  | r => .ok r) >>= k) := by
  show ((d1 env >>= _) >>= k) = _
  cases d1 env <;> rfl
@[simp] theorem dCallH_a (F : FnH) (i : Nat) (ds : List ED) (env : EnvD) : dCallH F i ds env = ((match env[i]? with
  | some (.own _) => dList ds env >>= fun r => (match r.2[i]? with
    | some (.own h) => (match F h r.1 with
      | .ok z => .ok (z.1, false, r.2.set i (.own z.2))
      | _ => .bad)
    | _ => .bad)
  | _ => .bad) : Res ER) := rfl
theorem seq_ok {d1 d2 : SD} {env env1 : EnvD} {r : Res SR} (h : d1 env = .ok (.nx env1)) (q : d2 env1 = r) : sSeq d1 d2 env = r := by
  rw [sSeq_a, h]; exact q
end PH
namespace PV
open PySem PySem.Spec PyProof.Rows L2
open EV (enc)
section
variable {α β : Type}
/-- a loop of which each turn adds a list -/
theorem for_ext {S : Type} {g : GD} {b : SD} (E : List Val → S → EnvD) (B : Nat) (e : α → Val) (f : α → List Val) : ∀ (xs : List α), (∀ x ∈ xs, ∀ acc tl, acc.length + (f x).length ≤ B → (g (e x) (E acc tl) >>= b).Is fun r => ∃ tl', r = .nx (E (acc ++ f x) tl')) →
    ∀ acc tl, acc.length + (xs.flatMap f).length ≤ B → ∃ tl', forLoop g b (xs.map e) (E acc tl) = .ok (.nx (E (acc ++ xs.flatMap f) tl'))
  | [], h, acc, tl, _ => ⟨tl, by simp [forLoop]⟩
  | x :: xs, h, acc, tl, hl => by
    rw [List.flatMap_cons, List.length_append] at hl
    have h1 := h x (by simp) acc tl (by omega)
    rw [is_bind] at h1
    obtain ⟨e1, q1, h2⟩ := h1.ex
    obtain ⟨r, q2, tl1, h3⟩ := h2.ex
    subst h3
    obtain ⟨tl', h4⟩ := for_ext E B e f xs (fun y hy => h y (by simp [hy])) (acc ++ f x) tl1 (by rw [List.length_append]; omega)
    refine ⟨tl', ?_⟩
    rw [List.map_cons]
    unfold forLoop
    rw [q1]
    simp only [res_ok_bind]
    rw [q2]
    simp only [res_ok_bind]
    rw [h4, List.flatMap_cons, List.append_assoc]
/-- a loop that folds, the rest of the names whatever -/
theorem for_st {σ S : Type} {g : GD} {b : SD} (E : σ → S → EnvD) (e : α → Val) (st : σ → α → σ) (I : σ → Prop) : ∀ (xs : List α), (∀ x ∈ xs, ∀ s tl, I s → (g (e x) (E s tl) >>= b).Is fun r => I (st s x) ∧ ∃ tl', r = .nx (E (st s x) tl')) →
    ∀ s tl, I s → ∃ tl', I (xs.foldl st s) ∧ forLoop g b (xs.map e) (E s tl) = .ok (.nx (E (xs.foldl st s) tl'))
  | [], h, s, tl, hi => ⟨tl, hi, rfl⟩
  | x :: xs, h, s, tl, hi => by
    have h1 := h x (by simp) s tl hi
    rw [is_bind] at h1
    obtain ⟨e1, q1, h2⟩ := h1.ex
    obtain ⟨r, q2, hi', tl1, h3⟩ := h2.ex
    subst h3
    obtain ⟨tl', hi2, h4⟩ := for_st E e st I xs (fun y hy => h y (by simp [hy])) (st s x) tl1 hi'
    refine ⟨tl', hi2, ?_⟩
    rw [List.map_cons]
    unfold forLoop
    rw [q1]
    simp only [res_ok_bind]
    rw [q2]
    simp only [res_ok_bind]
    exact h4
end
end PV

namespace PV
open PySem PySem.Spec PyProof.Rows L2
open PH (szl)
/-! ### several values at once, what is new stays ours -/
def Cfg.at (G : Cfg) (P : AP) : Cfg := { G with P := P }
def dOwns : List ED → EnvD → Res (List (Val × Bool) × EnvD)
  | [], env => .ok ([], env)
  | d :: ds, env => d env >>= fun a => dOwns ds a.2.2 >>= fun r => .ok ((a.1, a.2.1) :: r.1, r.2)
def RpRs (K : PySem.W.Frag) (H : Hp) (P M : AP) (σ : L2.St) (env : EnvD) : List (Val × Bool) → List V → Prop
  | [], xs => xs = []
  | r :: rs, xs => ∃ x ys, xs = x :: ys ∧ RpR K H P M σ env r.1 r.2 x ∧ RpRs K H P M σ env rs ys
/-- what is ours lies apart -/
def Dis : List (Val × Bool) → List V → Prop
  | r :: rs, x :: xs => (r.2 = true → ∀ (k : Nat) (w : Val), rs[k]? = some (w, true) → xs[k]? ≠ some x) ∧ Dis rs xs
  | _, _ => True
def okOw (G : Cfg) (σ : L2.St) (Q : List V → Hp → Prop) : List (Val × Bool) × EnvD → AP → Hp → Prop := fun r M H =>
  RelEnv G.K H G.P M σ r.2 → ∀ xs, RpRs G.K H G.P M σ r.2 r.1 xs → Dis r.1 xs → Q xs H
def tOw (G : Cfg) (ds : List ED) : TA := fun σ H Q => ∃ M env, RelEnv G.K H G.P M σ env ∧ Post G M H (okOw G σ Q) (dOwns ds env)
def xOw (G : Cfg) (ds : List ED) : TA := fun σ H Q => ∃ P, tOw (G.at P) ds σ H Q
theorem RpRs.get {K : PySem.W.Frag} {H : Hp} {P M : AP} {σ : L2.St} {env : EnvD} : ∀ {rs : List (Val × Bool)} {xs : List V} {k : Nat} {w : Val × Bool}, RpRs K H P M σ env rs xs → rs[k]? = some w → ∃ x, xs[k]? = some x ∧ RpR K H P M σ env w.1 w.2 x
  | [], xs, k, w, _, e => by simp at e
  | r :: rs, xs, k, w, h, e => by
    obtain ⟨x, ys, rfl, h1, h2⟩ := h
    cases k with
    | zero => simp at e; subst e; exact ⟨x, rfl, h1⟩
    | succ k => simp at e; exact (RpRs.get (k := k) h2 e).imp fun y hy => by simpa using hy
theorem RpRs.len {K : PySem.W.Frag} {H : Hp} {P M : AP} {σ : L2.St} {env : EnvD} : ∀ {rs : List (Val × Bool)} {xs : List V}, RpRs K H P M σ env rs xs → xs.length = rs.length
  | [], xs, h => by cases h; rfl
  | r :: rs, xs, h => by obtain ⟨x, ys, rfl, _, h2⟩ := h; simp [RpRs.len h2]
theorem RpRs.map {K : PySem.W.Frag} {H H' : Hp} {P M P' M' : AP} {σ σ' : L2.St} {env env' : EnvD} : ∀ {rs : List (Val × Bool)} {xs : List V}, (∀ (k : Nat) (r : Val × Bool) x, rs[k]? = some r → xs[k]? = some x → RpR K H P M σ env r.1 r.2 x → RpR K H' P' M' σ' env' r.1 r.2 x) → RpRs K H P M σ env rs xs → RpRs K H' P' M' σ' env' rs xs
  | [], xs, f, h => h
  | r :: rs, xs, f, h => by
    obtain ⟨x, ys, rfl, h1, h2⟩ := h
    exact ⟨x, ys, rfl, f 0 r x rfl rfl h1, RpRs.map (fun k r y e1 e2 => f (k + 1) r y (by simpa using e1) (by simpa using e2)) h2⟩
section
variable {X : Cx} {G : Cfg} {e : Expr} {es : List Expr} {d : ED} {ds : List ED} {pos : Pos}
theorem so_nil : PA X [] (tOw G []) := pa_nil.pv fun σ H Q ⟨M, env, R, p⟩ => p M H .refl R [] rfl trivial
theorem so_all (h : ∀ P, PA X es (tOw (G.at P) ds)) : PA X es (xOw G ds) := ⟨fun pos pins s σ H Q I ⟨P, q⟩ => (h P).run pos pins s σ H Q I q⟩
theorem RelEnv.out {K : PySem.W.Frag} {H : Hp} {P M : AP} {σ : L2.St} {env : EnvD} {a : Addr} (R : RelEnv K H (or' P (· = a)) M σ env) (pa : ¬ P a) : RelEnv K H P (or' M (· = a)) σ env := by
  refine ⟨R.len, fun i t e => ?_, R.one, fun b m => m.elim (R.mal b) fun z => R.pal b (.inr z), fun b p => R.pal b (.inl p), fun b p m => m.elim (R.pm b (.inl p)) fun z => by subst z; exact pa p⟩
  have q := R.slot i t e
  cases t with
  | emp => trivial
  | frz w => obtain ⟨y, e', r⟩ := q; exact ⟨y, e', by rw [← or_move]; exact r⟩
  | own w => obtain ⟨b, e', mb, r⟩ := q; exact ⟨b, e', .inl mb, by rw [← or_move]; exact r⟩
theorem or_take {P M : AP} {a : Addr} (ma : M a) : or' (or' P (· = a)) (fun b => M b ∧ b ≠ a) = or' P M := by
  funext b; simp only [or', eq_iff_iff]
  constructor
  · rintro ((h | h) | h)
    · exact .inl h
    · subst h; exact .inr ma
    · exact .inr h.1
  · rintro (h | h)
    · exact .inl (.inl h)
    · by_cases z : b = a
      · exact .inl (.inr z)
      · exact .inr ⟨h, z⟩
theorem RelEnv.hold {K : PySem.W.Frag} {H : Hp} {P M : AP} {σ : L2.St} {env : EnvD} {a : Addr} (R : RelEnv K H P M σ env) (ma : M a) (no : ∀ (i : Nat) (w : Val), env[i]? = some (.own w) → σ[i]? ≠ some (some (.ref a))) : RelEnv K H (or' P (· = a)) (fun b => M b ∧ b ≠ a) σ env := by
  refine ⟨R.len, fun i t e => ?_, R.one, fun b m => R.mal b m.1, fun b p => p.elim (R.pal b) fun z => by subst z; exact R.mal _ ma, fun b p m => p.elim (fun p => R.pm b p m.1) m.2⟩
  have q := R.slot i t e
  cases t with
  | emp => trivial
  | frz w => obtain ⟨y, e', r⟩ := q; exact ⟨y, e', by rw [or_take ma]; exact r⟩
  | own w => obtain ⟨b, e', mb, r⟩ := q; exact ⟨b, e', ⟨mb, fun z => by subst z; exact no i w e e'⟩, by rw [or_take ma]; exact r⟩
theorem so_cons (hd : PE X e (tE G d)) (hr : PA X es (xOw G ds)) (hs : starEach (e :: es) X.env = (false, eval e X.env) :: starEach es X.env := by rfl) : PA X (e :: es) (tOw G (d :: ds)) := (pa_cons hd hr hs).pv fun σ H Q ⟨M, env, R, p⟩ => by
  refine Post.bindE R p fun v o e1 x M1 H1 x1 R1 r1 p1 => ?_
  cases o with
  | false =>
    refine ⟨G.P, M1, e1, R1, ?_⟩
    simp only at p1
    cases q : dOwns ds e1 with
    | ok a =>
      obtain ⟨rs, e2⟩ := a
      rw [q] at p1
      refine fun M2 H2 x2 R2 xs r2 ds2 => ?_
      have r1' : Rp G.K H2 (or' G.P M2) v x := Rp.stay (x2.stay R1.pal) _ _ r1
      exact p1 M2 H2 x2 R2 (x :: xs) ⟨x, xs, rfl, r1', r2⟩ ⟨(fun z => nomatch z), ds2⟩
    | exc c pp => rw [q] at p1; exact p1
    | bad => rw [q] at p1; exact p1
  | true =>
    obtain ⟨a, rfl, ma, ow, no⟩ := r1
    have pa : ¬ G.P a := fun z => R1.pm a z ma
    refine ⟨or' G.P (· = a), fun b => M1 b ∧ b ≠ a, e1, R1.hold ma no, ?_⟩
    have ex : ∀ {M' H'}, Ext (fun b => M1 b ∧ b ≠ a) H1 M' H' → Ext M1 H1 (or' M' (· = a)) H' := fun {M' H'} x2 =>
      ⟨fun b u h n => x2.keep b u h fun m => n m.1, fun b m => m.elim (fun m => (x2.mem b m).imp_left fun m => m.1) fun z => .inl (by subst z; exact ma), x2.live⟩
    simp only at p1
    cases q : dOwns ds e1 with
    | ok y =>
      obtain ⟨rs, e2⟩ := y
      rw [q] at p1
      refine fun M2 H2 x2 R2 xs r2 ds2 => ?_
      have R2' : RelEnv G.K H2 (or' G.P (· = a)) M2 σ e2 := R2
      have na : ¬ M2 a := fun m => R2'.pm a (.inr rfl) m
      have Ro := R2'.out pa
      have hne : H1 a ≠ none := R1.mal a ma
      have hH : H2 a = H1 a := by
        cases q2 : H1 a with
        | none => exact absurd q2 hne
        | some u => exact x2.keep a u q2 fun m => m.2 rfl
      have no2 : ∀ (i : Nat) (w : Val), e2[i]? = some (.own w) → σ[i]? ≠ some (some (.ref a)) := fun i w e3 e4 => by
        obtain ⟨b, e5, mb, _⟩ := R2'.slot i _ e3
        rw [e4] at e5
        have : a = b := by simpa using e5
        subst this
        exact na mb
      have ow2 : OwnAt G.K H2 (or' G.P (or' M2 (· = a))) a v := ow.stay ((ex x2).stay R1.pal) hH
      refine p1 _ H2 (ex x2) Ro (.ref a :: xs) ⟨_, xs, rfl, ⟨a, rfl, .inr rfl, ow2, no2⟩, RpRs.map (fun k r x e3 e4 h => ?_) r2⟩ ⟨fun _ k w e3 e4 => ?_, ds2⟩
      · obtain ⟨u, o⟩ := r
        cases o with
        | false =>
          have h : Rp G.K H2 (or' (or' G.P (· = a)) M2) u x := h
          show Rp G.K H2 (or' G.P (or' M2 (· = a))) u x
          rw [← or_move]; exact h
        | true =>
          obtain ⟨b, eb, mb, owb, nob⟩ := h
          have owb : OwnAt G.K H2 (or' (or' G.P (· = a)) M2) b u := owb
          exact ⟨b, eb, .inl mb, by rw [← or_move]; exact owb, nob⟩
      · obtain ⟨x, e5, h⟩ := RpRs.get r2 e3
        obtain ⟨b, rfl, mb, _⟩ := h
        rw [e4] at e5
        have : a = b := by simpa using e5
        subst this
        exact na mb
    | exc c pp =>
      rw [q] at p1
      intro cls dd M2 H2 x2 xo
      refine p1 cls dd _ H2 (ex x2) ?_
      have xo : XOk G.K G.mg H2 (or' (or' G.P (· = a)) M2) c pp cls dd := xo
      rw [or_move] at xo
      exact xo
    | bad => rw [q] at p1; exact p1
end
def slotOf (r : Val × Bool) : Slot := if r.2 then .own r.1 else .frz r.1
def bindAll : List Nat → List (Val × Bool) → EnvD → Res EnvD
  | [], [], env => .ok env
  | j :: js, r :: rs, env => bindAll js rs (env.set j (slotOf r))
  | _, _, _ => .bad
def setAll : List Nat → List V → L2.St → L2.St
  | j :: js, x :: xs, σ => setAll js xs (σ.set j (some x))
  | _, _, σ => σ
/-- names = values -/
def sParO (js : List Nat) (ds : List ED) : SD := fun env => dOwns ds env >>= fun r => bindAll js r.1 r.2 >>= fun env => .ok (.nx env)
theorem bind_all {K : PySem.W.Frag} {H : Hp} {P M : AP} : ∀ {js : List Nat} {rs : List (Val × Bool)} {σ : L2.St} {env env' : EnvD} {xs : List V}, RelEnv K H P M σ env → RpRs K H P M σ env rs xs → Dis rs xs → bindAll js rs env = .ok env' → RelEnv K H P M (setAll js xs σ) env' ∧ xs.length = js.length
  | [], [], σ, env, env', xs, R, r, d, h => by cases h; cases r; exact ⟨R, rfl⟩
  | [], _ :: _, σ, env, env', xs, R, r, d, h => by cases h
  | _ :: _, [], σ, env, env', xs, R, r, d, h => by cases h
  | j :: js, u :: rs, σ, env, env', xs, R, r, d, h => by
    obtain ⟨x, ys, rfl, h1, h2⟩ := r
    obtain ⟨d1, d2⟩ := d
    obtain ⟨v, o⟩ := u
    have R' : RelEnv K H P M (σ.set j (some x)) (env.set j (slotOf (v, o))) := by
      cases o with
      | false => exact R.bindF h1
      | true => obtain ⟨a, rfl, ma, ow, no⟩ := h1; exact R.bindO ma ow no
    have step : RpRs K H P M (σ.set j (some x)) (env.set j (slotOf (v, o))) rs ys := by
      refine RpRs.map (fun k r y e1 e2 h => ?_) h2
      obtain ⟨w, o2⟩ := r
      cases o2 with
      | false => exact h
      | true =>
        obtain ⟨b, rfl, mb, owb, nob⟩ := h
        refine ⟨b, rfl, mb, owb, fun i w' e3 e4 => ?_⟩
        by_cases hj : j = i
        · subst hj
          by_cases hl : j < env.length
          · rw [List.getElem?_set_self hl] at e3
            rw [List.getElem?_set_self (by rw [← R.len]; exact hl)] at e4
            have e4 : x = .ref b := by simpa using e4
            cases o with
            | false => cases e3
            | true => exact d1 rfl k w e1 (by rw [e2, e4])
          · rw [List.getElem?_eq_none (by simpa using hl)] at e3; cases e3
        · rw [List.getElem?_set_ne hj] at e3 e4
          exact nob i w' e3 e4
    obtain ⟨a1, a2⟩ := bind_all R' step d2 h
    exact ⟨a1, by simp [a2]⟩
theorem Pinned.all {pin : Pin} : ∀ {js : List Nat} {xs : List V} {σ : L2.St}, NoPins pin js → Pinned pin σ → Pinned pin (setAll js xs σ)
  | [], xs, σ, n, h => h
  | j :: js, [], σ, n, h => h
  | j :: js, x :: xs, σ, n, h => Pinned.all (js := js) (fun i y e m => n i y e (List.mem_cons_of_mem _ m)) (h.set fun i y e z => n i y e (by rw [z]; exact List.mem_cons_self ..))
def tNames (js : List Nat) : TGs := fun xs σ H Q => xs.length = js.length ∧ Q (setAll js xs σ) H
section
variable {X : Cx} {G : Cfg} {pin : Pin} {e a b c : Expr} {es : List Expr} {d : ED} {ds : List ED} {pos p : Pos} {x : Str}
theorem gn_nil : PGs X [] (tNames []) := ⟨fun pins s σ H vs us Q I r ⟨hl, q⟩ => pgs_nil.run pins s σ H vs us Q I r ⟨List.length_eq_zero_iff.mp hl, by cases vs <;> simpa [setAll] using q⟩⟩
theorem gn_cons {j : Nat} {js : List Nat} (hr : PGs X es (tNames js)) (hN : X.N.Nodup) (hi : X.N[j]? = some x := by rfl) (hx : Loc X.env.scope x := by first | exact Or.inl rfl | exact Or.inr rfl) (hf : X.fn x = true ∨ X.env.scope.names.lookup x = some .local := by first | exact Or.inl rfl | exact Or.inr rfl)
    (hs : (assignEach (.Name x p :: es) X.env).map (·.2) = assign (.Name x p) X.env :: (assignEach es X.env).map (·.2) := by rfl) : PGs X (.Name x p :: es) (tNames (j :: js)) :=
  ⟨fun pins s σ H vs us Q I r ⟨hl, q⟩ => (pgs_cons (pg_name hN hi hx hf) hr hs).run pins s σ H vs us Q I r (by
    cases vs with
    | nil => simp at hl
    | cons v vs => exact ⟨v, vs, rfl, by simpa using hl, q⟩)⟩
theorem parO_end {js : List Nat} {σ : L2.St} {H : Hp} {D : Ends} {M : AP} {env : EnvD} (np : NoPins pin js) (R : RelEnv G.K H G.P M σ env) (hp : Pinned pin σ) (p : Post G M H (okS G pin D) (sParO js ds env)) (hT : ∀ xs M2 H2, xs.length = js.length → (∃ env2, RelEnv G.K H2 G.P M2 (setAll js xs σ) env2 ∧ Post G M2 H2 (okS G pin D) (.ok (.nx env2))) → D.nx (setAll js xs σ) H2) : tOw G ds σ H (fun xs H2 => xs.length = js.length ∧ D.nx (setAll js xs σ) H2) := by
  refine ⟨M, env, R, ?_⟩
  unfold sParO at p
  cases q : dOwns ds env with
  | ok y =>
    obtain ⟨rs, e2⟩ := y
    rw [q] at p
    refine fun M2 H2 x2 R2 xs r2 d2 => ?_
    have p := Post.mono p x2
    simp only [res_ok_bind] at p
    cases q2 : bindAll js rs e2 with
    | ok e3 =>
      rw [q2] at p
      obtain ⟨R3, l3⟩ := bind_all R2 r2 d2 q2
      exact ⟨l3, p.endN R3 (hp.all np)⟩
    | exc c pp => exact absurd q2 (bindAll_ne js rs e2 c pp)
    | bad => rw [q2] at p; exact p.elim
  | exc c pp => rw [q] at p; exact p
  | bad => rw [q] at p; exact p
where bindAll_ne : ∀ (js : List Nat) (rs : List (Val × Bool)) (e : EnvD) c pp, bindAll js rs e ≠ .exc c pp
  | [], [], _, _, _ => fun h => nomatch h
  | [], _ :: _, _, _, _ => fun h => nomatch h
  | _ :: _, [], _, _, _ => fun h => nomatch h
  | j :: js, r :: rs, e, c, pp => bindAll_ne js rs _ c pp
theorem v_parO {i j : Nat} {y : Str} {px py pt : Pos} {kt k2 pt2} (hN : X.N.Nodup) (ha : PA X [a, b] (tOw G ds)) (hi : X.N[i]? = some x := by rfl) (hj : X.N[j]? = some y := by rfl) (hij : i ≠ j := by decide)
    (hx : X.env.scope.names.lookup x = some .local := by rfl) (hy : X.env.scope.names.lookup y = some .local := by rfl)
    (hw : swappedStores [.Tuple [.Name x px, .Name y py] kt pt] (.Tuple [a, b] k2 pt2) X.env = pure (some [x, y]) := by rfl)
    (hs : swapsWithSole [.Tuple [.Name x px, .Name y py] kt pt] (.Tuple [a, b] k2 pt2) pos.line X.env = pure false := by rfl) (hc : X.calm = true := by rfl) (np : NoPins pin [i, j] := by intro j x z; cases z <;> decide) :
    PS X (.Assign [.Tuple [.Name x px, .Name y py] kt pt] (.Tuple [a, b] k2 pt2) pos) (tS G pin (sParO [i, j] ds)) := (ps_par hc hN hi hj hij hx hy ha hw hs).pv fun D σ H ⟨M, env, R, hp, p⟩ => by
  obtain ⟨M1, e1, R1, p1⟩ := parO_end np R hp p fun xs M2 H2 hl ⟨e2, R2, p2⟩ => p2.endN R2 (hp.all np)
  refine ⟨M1, e1, R1, ?_⟩
  revert p1
  cases dOwns ds e1 with
  | ok y =>
    refine fun p1 M' H' x' R' xs r d => ?_
    obtain ⟨hl, q⟩ := p1 M' H' x' R' xs r d
    match xs, hl with
    | [x, y], _ => exact ⟨x, y, rfl, q⟩
  | exc c pp => exact fun p1 => p1
  | bad => exact fun p1 => p1
theorem v_parO3 {i j l : Nat} {y z : Str} {px py pz pt : Pos} {kt k2 pt2} (hN : X.N.Nodup) (ha : PA X [a, b, c] (tOw G ds)) (hi : X.N[i]? = some x := by rfl) (hj : X.N[j]? = some y := by rfl) (hl : X.N[l]? = some z := by rfl) (hij : i ≠ j := by decide) (hil : i ≠ l := by decide) (hjl : j ≠ l := by decide)
    (hx : X.env.scope.names.lookup x = some .local := by rfl) (hy : X.env.scope.names.lookup y = some .local := by rfl) (hz : X.env.scope.names.lookup z = some .local := by rfl)
    (hw : swappedStores [.Tuple [.Name x px, .Name y py, .Name z pz] kt pt] (.Tuple [a, b, c] k2 pt2) X.env = pure (some [x, y, z]) := by rfl)
    (hs : swapsWithSole [.Tuple [.Name x px, .Name y py, .Name z pz] kt pt] (.Tuple [a, b, c] k2 pt2) pos.line X.env = pure false := by rfl) (hc : X.calm = true := by rfl) (np : NoPins pin [i, j, l] := by intro j x z; cases z <;> decide) :
    PS X (.Assign [.Tuple [.Name x px, .Name y py, .Name z pz] kt pt] (.Tuple [a, b, c] k2 pt2) pos) (tS G pin (sParO [i, j, l] ds)) := (ps_par3 hc hN hi hj hl hij hil hjl hx hy hz ha hw hs).pv fun D σ H ⟨M, env, R, hp, p⟩ => by
  obtain ⟨M1, e1, R1, p1⟩ := parO_end np R hp p fun xs M2 H2 hl ⟨e2, R2, p2⟩ => p2.endN R2 (hp.all np)
  refine ⟨M1, e1, R1, ?_⟩
  revert p1
  cases dOwns ds e1 with
  | ok y =>
    refine fun p1 M' H' x' R' xs r d => ?_
    obtain ⟨hl, q⟩ := p1 M' H' x' R' xs r d
    match xs, hl with
    | [x, y, z], _ => exact ⟨x, y, z, rfl, q⟩
  | exc c pp => exact fun p1 => p1
  | bad => exact fun p1 => p1
/-- .. where the tuple is built -/
theorem v_parT {js : List Nat} {tgs : List Expr} {kt : Nat} {k3} {pt pt2 : Pos} (ha : PA X es (tOw G ds)) (hg : PGs X tgs (tNames js)) (hl0 : js.length ≤ 1000 := by decide) (hn : (assignEach tgs X.env).length = js.length := by rfl) (hst : (assignEach tgs X.env).findIdx? (·.1) = none := by rfl)
    (hs : swapsWithSole [.Tuple tgs kt pt] (.Tuple es k3 pt2) pos.line X.env = pure false := by rfl) (hw : swappedStores [.Tuple tgs kt pt] (.Tuple es k3 pt2) X.env = pure none := by rfl) (h1 : (assignEach [.Tuple tgs kt pt] X.env).map (·.2) = [assign (.Tuple tgs kt pt) X.env] := by rfl) (hc : X.calm = true := by rfl) (np : NoPins pin js := by intro j x z; cases z <;> decide) :
    PS X (.Assign [.Tuple tgs kt pt] (.Tuple es k3 pt2) pos) (tS G pin (sParO js ds)) := (ps_asg (pe_tup ha) (pg_tup hc hg hn hst) hs hw h1).pv fun D σ H ⟨M, env, R, hp, p⟩ => by
  show tOw G ds σ H _
  refine ⟨M, env, R, ?_⟩
  unfold sParO at p
  cases q : dOwns ds env with
  | ok y =>
    obtain ⟨rs, e2⟩ := y
    rw [q] at p
    refine fun M2 H2 x2 R2 xs r2 d2 => ?_
    have p := Post.mono p x2
    simp only [res_ok_bind] at p
    cases q2 : bindAll js rs e2 with
    | ok e3 =>
      rw [q2] at p
      obtain ⟨R3, l3⟩ := bind_all R2 r2 d2 q2
      refine ⟨szl (by omega), fun t ht => ⟨t, xs, rfl, SqT.of upd_same, l3, l3, ?_⟩⟩
      have ex : Ext M2 H2 M2 (upd H2 t (.tup xs)) := Ext.new ht
      have R4 := R3.same (same_upd ht) (fun _ m => m) ex fun a m => ex.live a (R3.mal a m)
      exact (p.mono ex).endN R4 (hp.all np)
    | exc c pp => exact absurd q2 (parO_end.bindAll_ne js rs e2 c pp)
    | bad => rw [q2] at p; exact p.elim
  | exc c pp => rw [q] at p; exact p
  | bad => rw [q] at p; exact p
end
end PV

namespace PV
open PySem PySem.Spec PyProof.Rows L2
open PH (szl)
/-! ### all, any of things by their truth -/
def truD : Val → Option Bool
  | .non => some false
  | .bl b => some b
  | .int i => some (i != 0)
  | .tup vs => some (!vs.isEmpty)
  | .lst vs => some (!vs.isEmpty)
  | _ => none
def shortV : Val → Bool
  | .tup l => decide (l.length ≤ 1000000)
  | .lst l => decide (l.length ≤ 1000000)
  | _ => true
def trusD : List Val → Option (List Bool)
  | [] => some []
  | v :: vs => if okV v && shortV v then (truD v).bind fun b => (trusD vs).map (b :: ·) else none
def oAllT : Val → Res (Val × Bool)
  | .lst vs => match trusD vs with
    | some is => .ok (.bl (is.all id), false)
    | none => .bad
  | _ => .bad
theorem trusD_ok : ∀ {vs : List Val} {is : List Bool}, trusD vs = some is → PyData.canLayAll0 (toDs vs) = true ∧ (∀ x ∈ toDs vs, x.fits63) ∧ (toDs vs).map PyData.truthy = is
  | [], is, h => by cases h; simp [toDs, PyData.canLayAll0]
  | v :: vs, is, h => by
    unfold trusD at h
    split at h
    · rename_i c
      rw [Bool.and_eq_true] at c
      cases q : truD v with
      | none => rw [q] at h; cases h
      | some b =>
        rw [q] at h
        cases q2 : trusD vs with
        | none => rw [q2] at h; cases h
        | some bs =>
          rw [q2] at h; cases h
          obtain ⟨h1, h2, h3⟩ := trusD_ok q2
          refine ⟨?_, ?_, ?_⟩
          · rw [toDs, PyData.canLayAll0, h1, SeqAt.canLay_of_shaped c.1]; rfl
          · intro x hx
            rw [toDs] at hx
            rcases List.mem_cons.mp hx with rfl | hx
            · have c2 := c.2
              cases v <;> simp only [truD] at q <;> try (cases q; done)
              all_goals simp only [toD, PyData.fits63]
              all_goals (rw [toDs_map, List.length_map]; have := of_decide_eq_true c2; omega)
            · exact h2 x hx
          · rw [toDs, List.map_cons, h3]
            congr 1
            cases v <;> simp only [truD] at q <;> (try (cases q; done)) <;> cases q <;> simp [toD, PyData.truthy, toDs_map]
    · cases h
def rAllT (K : PySem.W.Frag) : List V → Hp → VK → Prop := fun vs H Q => ∃ (a : Addr) (xs : List V) (ds : List PyData), vs = [V.ref a] ∧ SqL K H a xs ∧ DpAll K H xs ds ∧ PyData.plainAll ds = true ∧ (∀ d ∈ ds, d.fits63) ∧ Q (.bl (ds.all PyData.truthy)) H
theorem cr_allT {X : Cx} (hc : X.calm = true) : CallR X (.builtin "all") (rAllT X.K) := by
  intro pins s σ H vs us Q I r h
  obtain ⟨a, xs, ds, rfl, hs, hd, hp, hf, q⟩ := h
  obtain ⟨as, rd⟩ := Dp.reads I (.list ds) (.ref a) (.ref a) (.lst hs hd) (by first | exact rfl | exact RelV.ref | trivial)
  rw [Vals.ref1 r]
  cases rd with
  | list h1 h2 h3 h4 =>
    exact PySem.W.all_list_data (I.ok.hd hc) ⟨_, h1, h2, _, h3⟩ h4 hp hf fun h' tk hk => ⟨.bl _, H, I.kept fun b o eo => hk b o eo, rfl, q⟩
section
variable {K : PySem.W.Frag}
theorem s_allT : OpSLR K (rAllT K) oAllT := by
  intro H A v x al hv
  cases v <;> try exact bad_ans
  case lst vs =>
    obtain ⟨a, xs, rfl, ha, l, _⟩ := hv
    show Ans _ _ _ _ (match trusD vs with | some is => _ | none => _)
    cases e : trusD vs with
    | none => exact bad_ans
    | some is =>
      obtain ⟨h1, h2, h3⟩ := trusD_ok e
      refine ans_pure (.bl (is.all id)) (fun _ => rp_bl.mpr rfl) fun Q q => ⟨a, xs, toDs vs, rfl, SqL.of ha, RpL.dp vs xs h1 l, PyData.plainAll_of_canLay0 _ h1, h2, ?_⟩
      have : (toDs vs).all PyData.truthy = is.all id := by rw [← h3, List.all_map]; rfl
      rw [this]; exact q
end
end PV

namespace Sh
open PySem PySem.Spec PyProof.Rows L2 PV
open PySem.W (minD maxD dataLt)
/-- is_integer(thing): 0 thing -/
def d_is_integer : SD := (sRet (dAndV (dCB (on2 oIsi) [(dVar 0), (dC (.ty "int"))]) (dUn oNot (dCB (on2 oIsi) [(dVar 0), (dC (.ty "bool"))]))))
def F_is_integer : Fn := runF 1 1 d_is_integer
/-- is_within(thing, low, high): 0 thing 1 low 2 high -/
def d_is_within : SD := (sRet (dAndV (dCB F_is_integer [(dVar 0)]) (dChain oLe oLe (dVar 1) (dVar 0) (dVar 2))))
def F_is_within : Fn := runF 3 3 d_is_within
/-- is_sized(thing, low, high): 0 thing 1 low 2 high -/
def d_is_sized : SD := (sRet (dAndV (dCB (on2 oIsi) [(dVar 0), (dC (.ty "tuple"))]) (dChain oLe oLe (dVar 1) (dCBS oLen 0) (dVar 2))))
def F_is_sized : Fn := runF 3 3 d_is_sized
/-- _law_hand(script): 0 script 1 cells 2 cell -/
def d__law_hand : SD := (sSeq (sOwn (dLc [2] (iVal (dSl (dVar 0) pNone (pSome (dC (.int 63))))) (gN 2) dYes (dCB (on1 oAbs) [(dCB (on1 oInt) [(dVar 2)])])) 1)
    (sRet (dLst [(dVar 1), (dC (.int 0)), (dC (.int 0)), (dBin oAdd (dC (.int 97)) (dBin oMul (dC (.int 5)) (dCBS oLen 1))), (dC (.int 0))])))
def F__law_hand : Fn := runF 3 1 d__law_hand
/-- _law_draw(hand, many): 0 hand 1 many 2 number 3 cell 4 figure -/
def d__law_draw : SD := (sSeq (sIf (dAndT (dTB (dBin oEq (dIxS 0 (dC (.int 2))) (dC (.int 0)))) (dTB (dBin oLt (dIxS 0 (dC (.int 1))) (dCB (on1 oLen) [(dIxS 0 (dC (.int 0)))])))) (sSeq (sOwn (dBin oIx (dIxS 0 (dC (.int 0))) (dIxS 0 (dC (.int 1)))) 3)
    (sSeq (sSet 0 (dC (.int 1)) (dBin oAdd (dIxS 0 (dC (.int 1))) (dC (.int 1))))
    (sSeq (sSet 0 (dC (.int 3)) (dBin oMod (dCB (on1 oInt) [(dBin oAdd (dBin oAdd (dBin oMul (dIxS 0 (dC (.int 3))) (dC (.int 48271))) (dVar 3)) (dC (.int 31)))]) (dC (.int 2147483647))))
    (sIf (dTB (dBin oGe (dVar 3) (dBin oPow (dC (.int 10)) (dC (.int 18))))) (sSet 0 (dC (.int 2)) (dVar 3)) sNil)))) sNil)
    (sSeq (sIf (dTB (dBin oGt (dIxS 0 (dC (.int 2))) (dC (.int 0)))) (sSeq (sOwn (dBin oMod (dCB (on1 oInt) [(dIxS 0 (dC (.int 2)))]) (dVar 1)) 4)
    (sSeq (sSet 0 (dC (.int 2)) (dBin oDiv (dIxS 0 (dC (.int 2))) (dVar 1)))
    (sRetF (dVar 4)))) sNil)
    (sSeq (sSet 0 (dC (.int 4)) (dBin oAdd (dIxS 0 (dC (.int 4))) (dC (.int 1))))
    (sSeq (sOwn (dBin oMod (dCB (on1 oInt) [(dBin oMul (dCB (on1 oInt) [(dBin oAdd (dIxS 0 (dC (.int 3))) (dBin oMul (dC (.int 6151)) (dIxS 0 (dC (.int 4)))))]) (dC (.int 40692)))]) (dC (.int 2147483399))) 2)
    (sSeq (sOwn (dBin oMod (dCB (on1 oInt) [(dBin oMul (dVar 2) (dBin oAdd (dBin oDiv (dVar 2) (dC (.int 1223))) (dC (.int 52027))))]) (dC (.int 2147483629))) 2)
    (sSeq (sOwn (dBin oMod (dCB (on1 oInt) [(dBin oMul (dVar 2) (dBin oAdd (dBin oDiv (dVar 2) (dC (.int 2671))) (dC (.int 69621))))]) (dC (.int 2147483647))) 2)
    (sRetF (dBin oMod (dCB (on1 oInt) [(dBin oDiv (dVar 2) (dC (.int 32)))]) (dVar 1)))))))))
def F__law_draw : FnH := runH 5 2 d__law_draw
/-- _law_some(hand, things): 0 hand 1 things -/
def d__law_some : SD := (sRetF (dIxS 1 (dCallH F__law_draw 0 [(dCBS oLen 1)])))
def F__law_some : FnH := runH 2 2 d__law_some
/-- _law_is(told, due): 0 told 1 due 2 key 3 one 4 two -/
def d__law_is (rec : Fn) : SD := (sSeq (sIf (dTru (dCB (on2 oIsi) [(dVar 1), (dTup [(dC (.ty "tuple")), (dC (.ty "list"))])])) (sSeq (sIf (dOrT (dTB (dBin oNe (dCB (on2 oIsi) [(dVar 0), (dC (.ty "tuple"))]) (dCB (on2 oIsi) [(dVar 1), (dC (.ty "tuple"))]))) (dNotT (dTru (dCB (on2 oIsi) [(dVar 0), (dTup [(dC (.ty "tuple")), (dC (.ty "list"))])])))) (sRet (dC (.bl false))) sNil)
    (sRet (dAndV (dBin oEq (dCBS oLen 0) (dCBS oLen 1)) (dCB (on1 oAll) [(dLc [3, 4] (iOf zipVs [(dVar 0), (dVar 1)]) (gT 2 (gsCons (gN 3) (gsCons (gN 4) gsNil))) dYes (dCB rec [(dVar 3), (dVar 4)]))])))) sNil)
    (sSeq (sIf (dTru (dCB (on2 oIsi) [(dVar 1), (dC (.ty "dict"))])) (sSeq (sIf (dOrT (dNotT (dTru (dCB (on2 oIsi) [(dVar 0), (dC (.ty "dict"))]))) (dTB (dBin oNe (dCBS oLen 0) (dCBS oLen 1)))) (sRet (dC (.bl false))) sNil)
    (sRet (dCB (on1 oAll) [(dLc [2] (iVal (dVar 1)) (gN 2) dYes (dAndV (dRS oIn (dVar 2) 0) (dCB rec [(dIxS 0 (dVar 2)), (dIxS 1 (dVar 2))])))]))) sNil)
    (sSeq (sIf (dOrT (dTru (dCB (on2 oIsi) [(dVar 1), (dC (.ty "str"))])) (dTB (dBin oIs (dVar 1) (dC .non)))) (sRet (dAndV (dBin oEq (dCB (on2 oIsi) [(dVar 0), (dC (.ty "str"))]) (dCB (on2 oIsi) [(dVar 1), (dC (.ty "str"))])) (dBin oEq (dVar 0) (dVar 1)))) sNil)
    (sRet (dAndV (dCB (on2 oIsi) [(dVar 0), (dC (.ty "int"))]) (dAndV (dBin oEq (dCB (on2 oIsi) [(dVar 0), (dC (.ty "bool"))]) (dCB (on2 oIsi) [(dVar 1), (dC (.ty "bool"))])) (dBin oEq (dVar 0) (dVar 1))))))))
def F__law_is : Nat → Fn
  | 0 => runF 5 2 sNo
  | n + 1 => runF 5 2 (d__law_is (F__law_is n))
/-- _law_is_number(thing): 0 thing -/
def d__law_is_number : SD := (sRet (dAndV (dCB (on2 oIsi) [(dVar 0), (dC (.ty "int"))]) (dUn oNot (dCB (on2 oIsi) [(dVar 0), (dC (.ty "bool"))]))))
def F__law_is_number : Fn := runF 1 1 d__law_is_number
/-- all_lots(some): 0 some 1 found 2 one 3 size 4 lot -/
def d_all_lots : SD := (sSeq (sOwn (dLst [(dTup [])]) 1)
    (sSeq (sFor (iVal (dVar 0)) (gN 2) (sOwn (dBin oAdd (dVar 1) (dLc [4] (iVal (dVar 1)) (gN 4) dYes (dBin oAdd (dVar 4) (dTup [(dVar 2)])))) 1))
    (sRet (dLc [3, 4] (iVal (dCB (on1 oSorted) [(dLc [4] (iVal (dVar 1)) (gN 4) dYes (dTup [(dCBS oLen 4), (dVar 4)]))])) (gT 2 (gsCons (gN 3) (gsCons (gN 4) gsNil))) dYes (dVar 4)))))
def F_all_lots : Fn := runF 5 1 d_all_lots
end Sh

namespace Sh
open PySem PySem.Spec PyProof.Rows L2 PV PH
open EV (enc)
def draw2 : SD := (sSeq (sIf (dTB (dBin oGt (dIxS 0 (dC (.int 2))) (dC (.int 0)))) (sSeq (sOwn (dBin oMod (dCB (on1 oInt) [(dIxS 0 (dC (.int 2)))]) (dVar 1)) 4)
    (sSeq (sSet 0 (dC (.int 2)) (dBin oDiv (dIxS 0 (dC (.int 2))) (dVar 1)))
    (sRetF (dVar 4)))) sNil)
    (sSeq (sSet 0 (dC (.int 4)) (dBin oAdd (dIxS 0 (dC (.int 4))) (dC (.int 1))))
    (sSeq (sOwn (dBin oMod (dCB (on1 oInt) [(dBin oMul (dCB (on1 oInt) [(dBin oAdd (dIxS 0 (dC (.int 3))) (dBin oMul (dC (.int 6151)) (dIxS 0 (dC (.int 4)))))]) (dC (.int 40692)))]) (dC (.int 2147483399))) 2)
    (sSeq (sOwn (dBin oMod (dCB (on1 oInt) [(dBin oMul (dVar 2) (dBin oAdd (dBin oDiv (dVar 2) (dC (.int 1223))) (dC (.int 52027))))]) (dC (.int 2147483629))) 2)
    (sSeq (sOwn (dBin oMod (dCB (on1 oInt) [(dBin oMul (dVar 2) (dBin oAdd (dBin oDiv (dVar 2) (dC (.int 2671))) (dC (.int 69621))))]) (dC (.int 2147483647))) 2)
    (sRetF (dBin oMod (dCB (on1 oInt) [(dBin oDiv (dVar 2) (dC (.int 32)))]) (dVar 1))))))))
theorem draw2_ok {many : Nat} (h1 : 0 < many) (h2 : many < 1000000) (cells : List Int) (i c s n : Int) (hi : 0 ≤ i) (t2 t3 t4 : PV.Slot) :
    (draw2 [.own (.lst [.lst (cells.map enc), .int i, .int c, .int s, .int n]), .frz (.int (many : Int)), t2, t3, t4] >>= kH).Is (Drawn many) := by
  have hm : (0 : Int) < (many : Int) := by omega
  have hm2 : (many : Int) < 1073741824 := by omega
  unfold draw2
  by_cases hc : 0 < c
  · have f1 := oMod_ii c many hm
    have f2 := oDiv_ii c many hm hm2
    simp [hc, f1, f2]
    have m1 := Int.emod_nonneg c (show (many : Int) ≠ 0 by omega)
    have m2 := Int.emod_lt_of_pos c hm
    exact ⟨(c % many).toNat, by rw [Int.toNat_of_nonneg m1], by omega, cells, i, c / many, s, n, rfl, hi⟩
  · have e1 := oMul_ii 6151 (n + 1) (mul_l (by decide))
    have e2 := oMul_ii (s + 6151 * (n + 1)) 40692 (mul_r (by decide))
    have e3 := oMod_ii ((s + 6151 * (n + 1)) * 40692) 2147483399 (by decide)
    generalize hx : (s + 6151 * (n + 1)) * 40692 % 2147483399 = x at e3
    have x1 : 0 ≤ x := by omega
    have x2 : x < 2147483399 := by omega
    have e4 := oDiv_ii x 1223 (by decide) (by decide)
    have e5 := oMul_ii x (x / 1223 + 52027) (mul_l (by omega))
    have e6 := oMod_ii (x * (x / 1223 + 52027)) 2147483629 (by decide)
    generalize hy : x * (x / 1223 + 52027) % 2147483629 = y at e6
    have y1 : 0 ≤ y := by omega
    have y2 : y < 2147483629 := by omega
    have e7 := oDiv_ii y 2671 (by decide) (by decide)
    have e8 := oMul_ii y (y / 2671 + 69621) (mul_l (by omega))
    have e9 := oMod_ii (y * (y / 2671 + 69621)) 2147483647 (by decide)
    generalize hz : y * (y / 2671 + 69621) % 2147483647 = z at e9
    have e10 := oDiv_ii z 32 (by decide) (by decide)
    have e11 := oMod_ii (z / 32) many hm
    simp [hc, e1, e2, e3, e4, e5, e6, e7, e8, e9, e10, e11]
    have m1 := Int.emod_nonneg (z / 32) (show (many : Int) ≠ 0 by omega)
    have m2 := Int.emod_lt_of_pos (z / 32) hm
    exact ⟨(z / 32 % many).toNat, by rw [Int.toNat_of_nonneg m1], by omega, cells, i, c, s, n + 1, rfl, hi⟩
def draw1 : SD := (sIf (dAndT (dTB (dBin oEq (dIxS 0 (dC (.int 2))) (dC (.int 0)))) (dTB (dBin oLt (dIxS 0 (dC (.int 1))) (dCB (on1 oLen) [(dIxS 0 (dC (.int 0)))])))) (sSeq (sOwn (dBin oIx (dIxS 0 (dC (.int 0))) (dIxS 0 (dC (.int 1)))) 3)
    (sSeq (sSet 0 (dC (.int 1)) (dBin oAdd (dIxS 0 (dC (.int 1))) (dC (.int 1))))
    (sSeq (sSet 0 (dC (.int 3)) (dBin oMod (dCB (on1 oInt) [(dBin oAdd (dBin oAdd (dBin oMul (dIxS 0 (dC (.int 3))) (dC (.int 48271))) (dVar 3)) (dC (.int 31)))]) (dC (.int 2147483647))))
    (sIf (dTB (dBin oGe (dVar 3) (dBin oPow (dC (.int 10)) (dC (.int 18))))) (sSet 0 (dC (.int 2)) (dVar 3)) sNil)))) sNil)
theorem law_draw_ok {h : Val} (g : GH h) {many : Nat} (h1 : 0 < many) (h2 : many < 1000000) : (F__law_draw h [.int (many : Int)]).Is (Drawn many) := by
  obtain ⟨cells, i, c, s, n, rfl, hi⟩ := g
  unfold F__law_draw
  refine runH_k rfl ?_
  rw [show d__law_draw = sSeq draw1 draw2 from rfl, seq_k]
  have two := fun cells i c s n hi t2 t3 t4 => draw2_ok h1 h2 cells i c s n hi t2 t3 t4
  unfold draw1
  by_cases hc : c = 0 ∧ i < (cells.length : Int)
  · obtain ⟨hc0, hl⟩ := hc
    subst hc0
    obtain ⟨x, hat⟩ : ∃ x, atI (cells.map (enc : Int → Val)) i = some (.int x) := by
      have hj : i.toNat < cells.length := by omega
      have e : i = ((i.toNat : Nat) : Int) := by omega
      refine ⟨cells[i.toNat], ?_⟩
      have := atI_nat' (xs := cells) hj
      rw [← e] at this
      rw [atI_map, this]; rfl
    have hix := oIx_l _ _ hat
    have e1 := oMul_ii s 48271 (mul_r (by decide))
    have e3 := oMod_ii (s * 48271 + x + 31) 2147483647 (by decide)
    by_cases hx : 1000000000000000000 ≤ x
    · simp [hl, hix, e1, e3, hx]
      exact two cells (i + 1) x _ n (by omega) _ _ _
    · simp [hl, hix, e1, e3, hx]
      exact two cells (i + 1) 0 _ n (by omega) _ _ _
  · by_cases hc0 : c = 0
    · have hl : ¬ i < (cells.length : Int) := fun z => hc ⟨hc0, z⟩
      simp [hc0, hl]
      exact two cells i 0 s n hi .emp .emp .emp
    · simp [hc0]
      exact two cells i c s n hi .emp .emp .emp
theorem drawI {h : Val} (g : GH h) {many : Int} (h1 : 0 < many) (h2 : many < 1000000) : ∃ (d : Nat) (h' : Val), F__law_draw h [.int many] = .ok (.int (d : Int), h') ∧ (d : Int) < many ∧ GH h' := by
  have := law_draw_ok g (many := many.toNat) (by omega) (by omega)
  rw [show ((many.toNat : Nat) : Int) = many by omega] at this
  obtain ⟨⟨v, h'⟩, e, d, e1, e2, e3⟩ := this.ex
  simp only at e1
  subst e1
  exact ⟨d, h', e, by omega, e3⟩
theorem law_hand_ok (is : List Int) (hl : is.length ≤ 63) : ∃ h, F__law_hand [.scr is] = .ok (h, true) ∧ GH h := by
  have hz : is.length ≤ sizeLine := by rw [show sizeLine = 16777216 from rfl]; omega
  have hs : oSl (.scr is) none (some 63) = .ok (.lst ((cut is none (some 63)).map enc), true) := by
    show (if is.length ≤ sizeLine then _ else _) = _
    rw [if_pos hz, show List.map Val.int is = is.map enc from rfl, cutD_map]
  have hc : (cut is none (some 63)).length ≤ 63 := by
    unfold cut; rw [List.length_take, List.length_drop]; omega
  generalize cut is none (some 63) = cs at hs hc
  have e1 := oMul_ii 5 (cs.length : Int) (mul_l (by decide))
  refine ⟨.lst [.lst ((cs.map fun c => if c < 0 then -c else c).map enc), .int 0, .int 0, .int (97 + 5 * (cs.length : Int)), .int 0], ?_, _, 0, 0, _, 0, rfl, by omega⟩
  simp [F__law_hand, runF, d__law_hand]
  rw [lcM cs enc (fun c => .int (if c < 0 then -c else c)) (by simp [hs]) (szl (by omega)) (fun c _ => by simp) (by simp) (by simp)]
  simp [e1]
theorem law_some_l {α : Type} {h : Val} (g : GH h) (f : α → Val) (xs : List α) (h1 : xs ≠ []) (h2 : xs.length < 1000000) : ∃ (x : α) (h' : Val), F__law_some h [.lst (xs.map f)] = .ok (f x, h') ∧ x ∈ xs ∧ GH h' := by
  have hp := List.length_pos_iff.mpr h1
  obtain ⟨d, h', e, e2, e3⟩ := drawI g (many := xs.length) (by omega) (by omega)
  have hd : d < xs.length := by omega
  have hix := oIx_l (xs.map f) d (v := f xs[d]) (by rw [atI_map, atI_nat' hd]; rfl)
  refine ⟨xs[d], h', ?_, List.getElem_mem hd, e3⟩
  simp [F__law_some, runH, d__law_some, e, hix]
end Sh

namespace Pc
open PySem PySem.Spec PyProof.Rows L2 PV Sh
open PySem.W (minD maxD dataLt)
/-- is_hide(thing): 0 thing 1 sign 2 row -/
def d_is_hide : SD := (sSeq (sIf (dOrT (dNotT (dTru (dCB F_is_sized [(dVar 0), (dC (.int 1)), (dC (.int 5))]))) (dNotT (dTru (dCB (on1 oAll) [(dLc [2] (iVal (dVar 0)) (gN 2) dYes (dCB (on2 oIsi) [(dVar 2), (dC (.ty "str"))]))])))) (sRet (dC (.bl false))) sNil)
    (sSeq (sIf (dOrT (dNotT (dTB (dChain oLe oLe (dC (.int 1)) (dCB (on1 oLen) [(dIxS 0 (dC (.int 0)))]) (dC (.int 5))))) (dTru (dCB (on1 oAny) [(dLc [2] (iVal (dVar 0)) (gN 2) dYes (dBin oNe (dCBS oLen 2) (dCB (on1 oLen) [(dIxS 0 (dC (.int 0)))])))]))) (sRet (dC (.bl false))) sNil)
    (sRet (dCB (on1 oAll) [(dLc [1] (iVal (dSM oJoin (dC (.str "")) (dVar 0))) (gN 1) dYes (dBin oIn (dVar 1) (dC (.str ".#"))))]))))
def F_is_hide : Fn := runF 3 1 d_is_hide
/-- check_hide(thing): 0 thing -/
def d_check_hide : SD := (sIf (dNotT (dTru (dCB F_is_hide [(dVar 0)]))) sNo sNil)
def F_check_hide : Fn := runF 1 1 d_check_hide
/-- is_size(thing): 0 thing 1 one -/
def d_is_size : SD := (sRet (dAndV (dCB F_is_sized [(dVar 0), (dC (.int 2)), (dC (.int 2))]) (dCB (on1 oAll) [(dLc [1] (iVal (dVar 0)) (gN 1) dYes (dCB F_is_within [(dVar 1), (dC (.int 1)), (dC (.int 4))]))])))
def F_is_size : Fn := runF 2 1 d_is_size
/-- are_leaf_sizes(thing): 0 thing 1 size -/
def d_are_leaf_sizes : SD := (sRet (dAndV (dCB F_is_sized [(dVar 0), (dC (.int 1)), (dC (.int 3))]) (dCB (on1 oAll) [(dLc [1] (iVal (dVar 0)) (gN 1) dYes (dCB F_is_size [(dVar 1)]))])))
def F_are_leaf_sizes : Fn := runF 2 1 d_are_leaf_sizes
/-- check_sizes(hide, sizes): 0 hide 1 sizes -/
def d_check_sizes : SD := (sSeq (sExpr (dCB F_check_hide [(dVar 0)]))
    (sIf (dNotT (dTru (dCB F_are_leaf_sizes [(dVar 1)]))) sNo sNil))
def F_check_sizes : Fn := runF 2 2 d_check_sizes
/-- raw_good(hide): 0 hide 1 found 2 row 3 signs 4 column 5 sign -/
def d_raw_good : SD := (sSeq (sOwn (dLst []) 1)
    (sSeq (sFor (iOf enumV [(dVar 0)]) (gT 2 (gsCons (gN 2) (gsCons (gN 3) gsNil))) (sExpr (dExt 1 (dLc [4, 5] (iOf enumV [(dVar 3)]) (gT 2 (gsCons (gN 4) (gsCons (gN 5) gsNil))) (dTB (dBin oEq (dVar 5) (dC (.str ".")))) (dTup [(dVar 2), (dVar 4)])))))
    (sRet (dVar 1))))
def F_raw_good : Fn := runF 6 1 d_raw_good
/-- cells_of_cut(size, cut): 0 size 1 cut 2 found 3 down 4 row 5 column 6 is_turned 7 high 8 wide 9 along -/
def d_cells_of_cut : SD := (sSeq (sAsg (dVar 1) (gT 3 (gsCons (gN 4) (gsCons (gN 5) (gsCons (gN 6) gsNil)))))
    (sSeq (sAsg (dIf (dTruS 6) (dUn oRev (dVar 0)) (dVar 0)) (gT 2 (gsCons (gN 7) (gsCons (gN 8) gsNil))))
    (sSeq (sOwn (dLst []) 2)
    (sSeq (sFor (iRng [(dVar 7)]) (gN 3) (sExpr (dExt 2 (dLc [9] (iRng [(dVar 8)]) (gN 9) dYes (dTup [(dBin oAdd (dVar 4) (dVar 3)), (dBin oAdd (dVar 5) (dVar 9))])))))
    (sRet (dVar 2))))))
def F_cells_of_cut : Fn := runF 10 2 d_cells_of_cut
/-- raw_places(hide, size): 0 hide 1 size 2 good 3 found 4 row 5 column 6 is_turned 7 cut 8 cell -/
def d_raw_places : SD := (sSeq (sParO [2, 3] [(dCB F_raw_good [(dVar 0)]), (dLst [])])
    (sSeq (sFor (iVal (dVar 2)) (gT 2 (gsCons (gN 4) (gsCons (gN 5) gsNil))) (sFor (iVal (dIf (dTB (dBin oNe (dIxS 1 (dC (.int 0))) (dIxS 1 (dC (.int 1))))) (dTup [(dC (.bl false)), (dC (.bl true))]) (dTup [(dC (.bl false))]))) (gN 6) (sSeq (sOwn (dTup [(dVar 4), (dVar 5), (dVar 6)]) 7)
    (sIf (dTru (dCB (on1 oAll) [(dLc [8] (iVal (dCB F_cells_of_cut [(dVar 1), (dVar 7)])) (gN 8) dYes (dRS oIn (dVar 8) 2))])) (sExpr (dApp 3 (dVar 7))) sNil))))
    (sRet (dVar 3))))
def F_raw_places : Fn := runF 9 2 d_raw_places
/-- rows_of_cuts(hide, sizes): 0 hide 1 sizes 2 found 3 size 4 places 5 longer 6 row 7 used 8 cut 9 cells 10 cell -/
def d_rows_of_cuts : SD := (sSeq (sOwn (dLst [(dLst [(dTup [(dTup []), (dTup [])])])]) 2)
    (sSeq (sFor (iVal (dVar 1)) (gN 3) (sSeq (sOwn (dLc [8] (iVal (dCB F_raw_places [(dVar 0), (dVar 3)])) (gN 8) dYes (dTup [(dVar 8), (dCB (on1 oTuple) [(dCB F_cells_of_cut [(dVar 3), (dVar 8)])])])) 4)
    (sSeq (sOwn (dLst []) 5)
    (sSeq (sFor (iVal (dIxS 2 (dUn oNeg (dC (.int 1))))) (gT 2 (gsCons (gN 6) (gsCons (gN 7) gsNil))) (sFor (iVal (dVar 4)) (gT 2 (gsCons (gN 8) (gsCons (gN 9) gsNil))) (sIf (dNotT (dTru (dCB (on1 oAny) [(dLc [10] (iVal (dVar 9)) (gN 10) dYes (dRS oIn (dVar 10) 7))]))) (sExpr (dApp 5 (dTup [(dBin oAdd (dVar 6) (dTup [(dVar 8)])), (dBin oAdd (dVar 7) (dVar 9))]))) sNil)))
    (sExpr (dApp 2 (dVar 5)))))))
    (sRet (dVar 2))))
def F_rows_of_cuts : Fn := runF 11 2 d_rows_of_cuts
/-- hide_cuts(hide, sizes): 0 hide 1 sizes -/
def d_hide_cuts : SD := (sRet (dBin oIx (dCB F_rows_of_cuts [(dVar 0), (dVar 1)]) (dUn oNeg (dC (.int 1)))))
def F_hide_cuts : Fn := runF 2 2 d_hide_cuts
/-- needed_cells(sizes): 0 sizes 1 high 2 wide -/
def d_needed_cells : SD := (sRet (dCB (on1 oSum) [(dLc [1, 2] (iVal (dVar 0)) (gT 2 (gsCons (gN 1) (gsCons (gN 2) gsNil))) dYes (dBin oMul (dVar 1) (dVar 2)))]))
def F_needed_cells : Fn := runF 3 1 d_needed_cells
/-- most_cut(hide, sizes): 0 hide 1 sizes 2 lots 3 most 4 lot 5 leaf -/
def d_most_cut : SD := (sSeq (sExpr (dCB F_check_sizes [(dVar 0), (dVar 1)]))
    (sSeq (sOwn (dLc [4] (iVal (dCB F_all_lots [(dCB (on1 oList) [(dCB (on1 oRange1) [(dCBS oLen 1)])])])) (gN 4) (dTru (dCB F_hide_cuts [(dVar 0), (dLc [5] (iVal (dVar 4)) (gN 5) dYes (dIxS 1 (dVar 5)))])) (dVar 4)) 2)
    (sSeq (sOwn (dCB (on1 (oBest maxV)) [(dLc [4] (iVal (dVar 2)) (gN 4) dYes (dCBS oLen 4))]) 3)
    (sRet (dTup [(dVar 3), (dCB (on1 (oBest minV)) [(dLc [4] (iVal (dVar 2)) (gN 4) (dTB (dBin oEq (dCBS oLen 4) (dVar 3))) (dVar 4))])])))))
def F_most_cut : Fn := runF 6 2 d_most_cut
/-- largest_leaf(hide): 0 hide 1 high 2 good 3 best 4 wide 5 row 6 column 7 cells 8 cell -/
def d_largest_leaf : SD := (sSeq (sExpr (dCB F_check_hide [(dVar 0)]))
    (sSeq (sParO [2, 3] [(dCB F_raw_good [(dVar 0)]), (dTup [(dC (.int 0)), (dC .non)])])
    (sSeq (sFor (iRng [(dC (.int 1)), (dBin oAdd (dC (.int 5)) (dC (.int 1)))]) (gN 1) (sFor (iRng [(dC (.int 1)), (dBin oAdd (dC (.int 5)) (dC (.int 1)))]) (gN 4) (sFor (iVal (dVar 2)) (gT 2 (gsCons (gN 5) (gsCons (gN 6) gsNil))) (sSeq (sOwn (dCB F_cells_of_cut [(dTup [(dVar 1), (dVar 4)]), (dTup [(dVar 5), (dVar 6), (dC (.bl false))])]) 7)
    (sIf (dAndT (dTB (dBin oGt (dBin oMul (dVar 1) (dVar 4)) (dIxS 3 (dC (.int 0))))) (dTru (dCB (on1 oAll) [(dLc [8] (iVal (dVar 7)) (gN 8) dYes (dRS oIn (dVar 8) 2))]))) (sOwn (dTup [(dBin oMul (dVar 1) (dVar 4)), (dTup [(dVar 1), (dVar 4)])]) 3) sNil)))))
    (sRet (dVar 3)))))
def F_largest_leaf : Fn := runF 9 1 d_largest_leaf
/-- waste_of(hide, sizes): 0 hide 1 sizes -/
def d_waste_of : SD := (sSeq (sExpr (dCB F_check_sizes [(dVar 0), (dVar 1)]))
    (sRet (dIf (dTru (dCB F_hide_cuts [(dVar 0), (dVar 1)])) (dBin oSub (dCB (on1 oLen) [(dCB F_raw_good [(dVar 0)])]) (dCB F_needed_cells [(dVar 1)])) (dC .non))))
def F_waste_of : Fn := runF 2 2 d_waste_of
/-- needed_hide_cells(hide, sizes): 0 hide 1 sizes 2 rows 3 cuts 4 cells 5 cell -/
def d_needed_hide_cells : SD := (sSeq (sExpr (dCB F_check_sizes [(dVar 0), (dVar 1)]))
    (sSeq (sOwn (dLc [3, 4] (iVal (dCB F_hide_cuts [(dVar 0), (dVar 1)])) (gT 2 (gsCons (gN 3) (gsCons (gN 4) gsNil))) dYes (dVar 4)) 2)
    (sRet (dCB (on1 oTuple) [(dLc [5] (iVal (dCB F_raw_good [(dVar 0)])) (gN 5) (dAndT (dTruS 2) (dTru (dCB (on1 oAll) [(dLc [4] (iVal (dVar 2)) (gN 4) dYes (dRS oIn (dVar 5) 4))]))) (dVar 5))]))))
def F_needed_hide_cells : Fn := runF 6 2 d_needed_hide_cells
/-- raw_hole(hide, cell): 0 hide 1 cell 2 signs 3 row 4 column -/
def d_raw_hole : SD := (sSeq (sAsg (dVar 1) (gT 2 (gsCons (gN 3) (gsCons (gN 4) gsNil))))
    (sSeq (sOwn (dBin oAdd (dBin oAdd (dSl (dIxS 0 (dVar 3)) pNone (pSome (dVar 4))) (dC (.str "#"))) (dSl (dIxS 0 (dVar 3)) (pSome (dBin oAdd (dVar 4) (dC (.int 1)))) pNone)) 2)
    (sRet (dBin oAdd (dBin oAdd (dSl (dVar 0) pNone (pSome (dVar 3))) (dTup [(dVar 2)])) (dSl (dVar 0) (pSome (dBin oAdd (dVar 3) (dC (.int 1)))) pNone)))))
def F_raw_hole : Fn := runF 5 2 d_raw_hole
/-- with_hole(hide, cell): 0 hide 1 cell 2 one -/
def d_with_hole : SD := (sSeq (sExpr (dCB F_check_hide [(dVar 0)]))
    (sSeq (sIf (dOrT (dNotT (dTru (dCB F_is_sized [(dVar 1), (dC (.int 2)), (dC (.int 2))]))) (dNotT (dTru (dCB (on1 oAll) [(dLc [2] (iVal (dVar 1)) (gN 2) dYes (dCB F_is_within [(dVar 2), (dC (.int 0)), (dBin oSub (dC (.int 5)) (dC (.int 1)))]))])))) sNo sNil)
    (sSeq (sIf (dTB (dBin oNotIn (dVar 1) (dCB F_raw_good [(dVar 0)]))) sNo sNil)
    (sRet (dCB F_raw_hole [(dVar 0), (dVar 1)])))))
def F_with_hole : Fn := runF 3 2 d_with_hole
/-- harmful_holes(hide, sizes): 0 hide 1 sizes 2 cell -/
def d_harmful_holes : SD := (sSeq (sExpr (dCB F_check_sizes [(dVar 0), (dVar 1)]))
    (sSeq (sIf (dNotT (dTru (dCB F_hide_cuts [(dVar 0), (dVar 1)]))) (sRet (dTup [])) sNil)
    (sRet (dCB (on1 oTuple) [(dLc [2] (iVal (dCB F_raw_good [(dVar 0)])) (gN 2) (dNotT (dTru (dCB F_hide_cuts [(dCB F_raw_hole [(dVar 0), (dVar 2)]), (dVar 1)]))) (dVar 2))]))))
def F_harmful_holes : Fn := runF 3 2 d_harmful_holes
/-- _law_hide(hand, most): 0 hand 1 most 2 rows 3 row 4 high 5 wide 6 share 7 column -/
def d__law_hide : SD := (sSeq (sParO [4, 5, 6] [(dBin oAdd (dC (.int 1)) (dCallH F__law_draw 0 [(dVar 1)])), (dBin oAdd (dC (.int 1)) (dCallH F__law_draw 0 [(dVar 1)])), (dCallH F__law_some 0 [(dLst [(dC (.int 3)), (dC (.int 6)), (dC (.int 40))])])])
    (sSeq (sOwn (dTup []) 2)
    (sSeq (sFor (iRng [(dVar 4)]) (gN 3) (sOwn (dBin oAdd (dVar 2) (dTup [(dSM oJoin (dC (.str "")) (dLc [7] (iRng [(dVar 5)]) (gN 7) dYes (dIf (dTB (dBin oEq (dCallH F__law_draw 0 [(dVar 6)]) (dC (.int 0)))) (dC (.str "#")) (dC (.str ".")))))])) 2))
    (sRetF (dVar 2)))))
def F__law_hide : FnH := runH 8 2 d__law_hide
/-- _law_cells(hide): 0 hide 1 found 2 row 3 text 4 column 5 sign -/
def d__law_cells : SD := (sSeq (sOwn (dLst []) 1)
    (sSeq (sFor (iOf enumV [(dVar 0)]) (gT 2 (gsCons (gN 2) (gsCons (gN 3) gsNil))) (sOwn (dBin oAdd (dVar 1) (dLc [4, 5] (iOf enumV [(dVar 3)]) (gT 2 (gsCons (gN 4) (gsCons (gN 5) gsNil))) (dTB (dBin oEq (dVar 5) (dC (.str ".")))) (dTup [(dVar 2), (dVar 4)]))) 1))
    (sRet (dVar 1))))
def F__law_cells : Fn := runF 6 1 d__law_cells
/-- _law_covered(cut, size): 0 cut 1 size 2 found 3 down 4 row 5 column 6 is_turned 7 high 8 wide 9 across -/
def d__law_covered : SD := (sSeq (sAsg (dVar 0) (gT 3 (gsCons (gN 4) (gsCons (gN 5) (gsCons (gN 6) gsNil)))))
    (sSeq (sAsg (dIf (dTruS 6) (dUn oRev (dVar 1)) (dVar 1)) (gT 2 (gsCons (gN 7) (gsCons (gN 8) gsNil))))
    (sSeq (sOwn (dLst []) 2)
    (sSeq (sFor (iRng [(dVar 7)]) (gN 3) (sOwn (dBin oAdd (dVar 2) (dLc [9] (iRng [(dVar 8)]) (gN 9) dYes (dTup [(dBin oAdd (dVar 4) (dVar 3)), (dBin oAdd (dVar 5) (dVar 9))]))) 2))
    (sRet (dVar 2))))))
def F__law_covered : Fn := runF 10 2 d__law_covered
/-- _law_places(hide, size): 0 hide 1 size 2 good 3 found 4 row 5 column 6 is_turned 7 cut 8 cell -/
def d__law_places : SD := (sSeq (sParO [2, 3] [(dCB F__law_cells [(dVar 0)]), (dLst [])])
    (sSeq (sFor (iVal (dVar 2)) (gT 2 (gsCons (gN 4) (gsCons (gN 5) gsNil))) (sFor (iVal (dTup [(dC (.bl false)), (dC (.bl true))])) (gN 6) (sIf (dOrT (dNotT (dTruS 6)) (dTB (dBin oNe (dIxS 1 (dC (.int 0))) (dIxS 1 (dC (.int 1)))))) (sSeq (sOwn (dTup [(dVar 4), (dVar 5), (dVar 6)]) 7)
    (sOwn (dBin oAdd (dVar 3) (dIf (dTru (dCB (on1 oAll) [(dLc [8] (iVal (dCB F__law_covered [(dVar 7), (dVar 1)])) (gN 8) dYes (dRS oIn (dVar 8) 2))])) (dLst [(dVar 7)]) (dLst []))) 3)) sNil)))
    (sRet (dVar 3))))
def F__law_places : Fn := runF 9 2 d__law_places
/-- _law_cuts(hide, sizes): 0 hide 1 sizes 2 found 3 size 4 longer 5 places 6 row 7 used 8 cut 9 cells 10 cell -/
def d__law_cuts : SD := (sSeq (sOwn (dLst [(dTup [(dTup []), (dTup [])])]) 2)
    (sSeq (sFor (iVal (dVar 1)) (gN 3) (sSeq (sParO [4, 5] [(dLst []), (dLc [8] (iVal (dCB F__law_places [(dVar 0), (dVar 3)])) (gN 8) dYes (dTup [(dVar 8), (dCB F__law_covered [(dVar 8), (dVar 3)])]))])
    (sSeq (sFor (iVal (dVar 2)) (gT 2 (gsCons (gN 6) (gsCons (gN 7) gsNil))) (sFor (iVal (dVar 5)) (gT 2 (gsCons (gN 8) (gsCons (gN 9) gsNil))) (sIf (dNotT (dTru (dCB (on1 oAny) [(dLc [10] (iVal (dVar 9)) (gN 10) dYes (dRS oIn (dVar 10) 7))]))) (sExpr (dApp 4 (dTup [(dBin oAdd (dVar 6) (dTup [(dVar 8)])), (dBin oAdd (dVar 7) (dCBS oTuple 9))]))) sNil)))
    (sOwn (dVar 4) 2))))
    (sRet (dVar 2))))
def F__law_cuts : Fn := runF 11 2 d__law_cuts
/-- _law_sizes(hand): 0 hand 1 sizes 2 leaf -/
def d__law_sizes : SD := (sSeq (sOwn (dTup []) 1)
    (sSeq (sFor (iRng [(dBin oAdd (dC (.int 1)) (dCallH F__law_draw 0 [(dC (.int 3))]))]) (gN 2) (sOwn (dBin oAdd (dVar 1) (dTup [(dTup [(dBin oAdd (dC (.int 1)) (dCallH F__law_draw 0 [(dC (.int 2))])), (dBin oAdd (dC (.int 1)) (dCallH F__law_draw 0 [(dC (.int 3))]))])])) 1))
    (sRetF (dVar 1))))
def F__law_sizes : FnH := runH 3 1 d__law_sizes
/-- _law_holed(hide, cell): 0 hide 1 cell 2 r 3 c -/
def d__law_holed : SD := (sSeq (sAsg (dVar 1) (gT 2 (gsCons (gN 2) (gsCons (gN 3) gsNil))))
    (sRet (dBin oAdd (dBin oAdd (dSl (dVar 0) pNone (pSome (dVar 2))) (dTup [(dBin oAdd (dBin oAdd (dSl (dIxS 0 (dVar 2)) pNone (pSome (dVar 3))) (dC (.str "#"))) (dSl (dIxS 0 (dVar 2)) (pSome (dBin oAdd (dVar 3) (dC (.int 1)))) pNone))])) (dSl (dVar 0) (pSome (dBin oAdd (dVar 2) (dC (.int 1)))) pNone))))
def F__law_holed : Fn := runF 4 2 d__law_holed
/-- _law_lots(n): 0 n 1 found 2 one 3 size 4 lot -/
def d__law_lots : SD := (sSeq (sOwn (dLst [(dTup [])]) 1)
    (sSeq (sFor (iRng [(dVar 0)]) (gN 2) (sOwn (dBin oAdd (dVar 1) (dLc [4] (iVal (dVar 1)) (gN 4) dYes (dBin oAdd (dVar 4) (dTup [(dVar 2)])))) 1))
    (sRet (dLc [3, 4] (iVal (dCB (on1 oSorted) [(dLc [4] (iVal (dVar 1)) (gN 4) dYes (dTup [(dCBS oLen 4), (dVar 4)]))])) (gT 2 (gsCons (gN 3) (gsCons (gN 4) gsNil))) dYes (dVar 4)))))
def F__law_lots : Fn := runF 5 1 d__law_lots
/-- _law_largest(hide): 0 hide 1 high 2 good 3 best 4 wide 5 fits 6 r 7 c 8 cell -/
def d__law_largest : SD := (sSeq (sParO [2, 3] [(dCB F__law_cells [(dVar 0)]), (dTup [(dC (.int 0)), (dC .non)])])
    (sSeq (sFor (iRng [(dC (.int 1)), (dC (.int 6))]) (gN 1) (sFor (iRng [(dC (.int 1)), (dC (.int 6))]) (gN 4) (sSeq (sOwn (dCB (on1 oAny) [(dLc [6, 7] (iVal (dVar 2)) (gT 2 (gsCons (gN 6) (gsCons (gN 7) gsNil))) dYes (dCB (on1 oAll) [(dLc [8] (iVal (dCB F__law_covered [(dTup [(dVar 6), (dVar 7), (dC (.bl false))]), (dTup [(dVar 1), (dVar 4)])])) (gN 8) dYes (dRS oIn (dVar 8) 2))]))]) 5)
    (sOwn (dIf (dAndT (dTruS 5) (dTB (dBin oGt (dBin oMul (dVar 1) (dVar 4)) (dIxS 3 (dC (.int 0)))))) (dTup [(dBin oMul (dVar 1) (dVar 4)), (dTup [(dVar 1), (dVar 4)])]) (dVar 3)) 3))))
    (sRet (dVar 3))))
def F__law_largest : Fn := runF 9 1 d__law_largest
/-- law(script): 0 script 1 hand 2 turn 3 lots 4 lot 5 most 6 need 7 cells 8 hide 9 sizes 10 good 11 every 12 cell 13 high 14 wide 15 at 16 row 17 used -/
def d_law : SD := (sSeq (sOwn (dCB F__law_hand [(dVar 0)]) 1)
    (sSeq (sFor (iRng [(dC (.int 4))]) (gN 2) (sSeq (sParO [8, 9] [(dCallH F__law_hide 1 [(dC (.int 3))]), (dCallH F__law_sizes 1 [])])
    (sSeq (sParO [10, 11] [(dCB F__law_cells [(dVar 8)]), (dCB F__law_cuts [(dVar 8), (dVar 9)])])
    (sSeq (sOwn (dLst []) 3)
    (sSeq (sFor (iVal (dCB F__law_lots [(dCBS oLen 9)])) (gN 4) (sOwn (dBin oAdd (dVar 3) (dIf (dTB (dBin oGt (dCB (on1 oLen) [(dCB F__law_cuts [(dVar 8), (dLc [15] (iVal (dVar 4)) (gN 15) dYes (dIxS 9 (dVar 15)))])]) (dC (.int 0)))) (dLst [(dVar 4)]) (dLst []))) 3))
    (sSeq (sOwn (dCB (on1 oLen) [(dIxS 3 (dUn oNeg (dC (.int 1))))]) 5)
    (sSeq (sIf (dNotT (dTru (dCB (F__law_is 8) [(dCB F_most_cut [(dVar 8), (dVar 9)]), (dTup [(dVar 5), (dBin oIx (dLc [4] (iVal (dVar 3)) (gN 4) (dTB (dBin oEq (dCBS oLen 4) (dVar 5))) (dVar 4)) (dC (.int 0)))])]))) (sRet (dC (.bl false))) sNil)
    (sSeq (sIf (dNotT (dTru (dCB (F__law_is 8) [(dCB F_largest_leaf [(dVar 8)]), (dCB F__law_largest [(dVar 8)])]))) (sRet (dC (.bl false))) sNil)
    (sSeq (sOwn (dCB (on1 oSum) [(dLc [13, 14] (iVal (dVar 9)) (gT 2 (gsCons (gN 13) (gsCons (gN 14) gsNil))) dYes (dBin oMul (dVar 13) (dVar 14)))]) 6)
    (sSeq (sIf (dNotT (dTru (dCB (F__law_is 8) [(dCB F_waste_of [(dVar 8), (dVar 9)]), (dIf (dTB (dBin oGt (dCBS oLen 11) (dC (.int 0)))) (dBin oSub (dCBS oLen 10) (dVar 6)) (dC .non))]))) (sRet (dC (.bl false))) sNil)
    (sSeq (sOwn (dCB (on1 oTuple) [(dLc [12] (iVal (dVar 10)) (gN 12) (dAndT (dTB (dBin oGt (dCBS oLen 11) (dC (.int 0)))) (dTru (dCB (on1 oAll) [(dLc [16, 17] (iVal (dVar 11)) (gT 2 (gsCons (gN 16) (gsCons (gN 17) gsNil))) dYes (dRS oIn (dVar 12) 17))]))) (dVar 12))]) 7)
    (sSeq (sIf (dOrT (dNotT (dTru (dCB (F__law_is 8) [(dCB F_needed_hide_cells [(dVar 8), (dVar 9)]), (dVar 7)]))) (dTB (dBin oNe (dCB F_harmful_holes [(dVar 8), (dVar 9)]) (dVar 7)))) (sRet (dC (.bl false))) sNil)
    (sIf (dTB (dBin oGt (dCBS oLen 10) (dC (.int 0)))) (sSeq (sOwn (dCallH F__law_some 1 [(dVar 10)]) 12)
    (sSeq (sIf (dNotT (dTru (dCB (F__law_is 8) [(dCB F_with_hole [(dVar 8), (dVar 12)]), (dCB F__law_holed [(dVar 8), (dVar 12)])]))) (sRet (dC (.bl false))) sNil)
    (sIf (dTB (dBin oNe (dBin oIs (dCB F_waste_of [(dCB F__law_holed [(dVar 8), (dVar 12)]), (dVar 9)]) (dC .non)) (dOrV (dBin oEq (dCBS oLen 11) (dC (.int 0))) (dRS oIn (dVar 12) 7)))) (sRet (dC (.bl false))) sNil))) sNil)))))))))))))
    (sRet (dC (.bl true)))))
def F_law : Fn := runF 18 1 d_law
end Pc

namespace Pc
open PySem PySem.Spec PyProof.Rows L2 PV Sh
open PySem.W (minD maxD dataLt)
/-- cuts_count(hide, sizes): 0 hide 1 sizes -/
def d_cuts_count : SD := (sSeq (sExpr (dCB F_check_sizes [(dVar 0), (dVar 1)]))
    (sRet (dCB (on1 oLen) [(dCB F_hide_cuts [(dVar 0), (dVar 1)])])))
def F_cuts_count : Fn := runF 2 2 d_cuts_count
/-- can_be_cut(hides, sizes): 0 hides 1 sizes 2 waiting 3 leaf 4 shares 5 at 6 hide 7 lot 8 one -/
def d_can_be_cut : SD := (sSeq (sOwn (dLst [(dTup [(dC (.int 0)), (dCB (on1 oTuple) [(dLc [6] (iVal (dVar 0)) (gN 6) dYes (dTup []))])])]) 2)
    (sSeq (sWhile 200 (dTruS 2) (sSeq (sAsg (dPop 2) (gT 2 (gsCons (gN 3) (gsCons (gN 4) gsNil))))
    (sIf (dTru (dCB (on1 oAllT) [(dLc [6, 7] (iOf zipVs [(dVar 0), (dVar 4)]) (gT 2 (gsCons (gN 6) (gsCons (gN 7) gsNil))) dYes (dCB F_hide_cuts [(dVar 6), (dLc [8] (iVal (dVar 7)) (gN 8) dYes (dIxS 1 (dVar 8)))]))])) (sSeq (sIf (dTB (dBin oEq (dVar 3) (dCBS oLen 1))) (sRet (dC (.bl true))) sNil)
    (sFor (iRng [(dCBS oLen 0)]) (gN 5) (sExpr (dApp 2 (dTup [(dBin oAdd (dVar 3) (dC (.int 1))), (dBin oAdd (dBin oAdd (dSl (dVar 4) pNone (pSome (dVar 5))) (dTup [(dBin oAdd (dIxS 4 (dVar 5)) (dTup [(dVar 3)]))])) (dSl (dVar 4) (pSome (dBin oAdd (dVar 5) (dC (.int 1)))) pNone))]))))) sNil)))
    (sRet (dC (.bl false)))))
def F_can_be_cut : Fn := runF 9 2 d_can_be_cut
/-- hides_needed(hides, sizes): 0 hides 1 sizes 2 lot 3 hide -/
def d_hides_needed : SD := (sSeq (sIf (dOrT (dNotT (dTru (dCB F_is_sized [(dVar 0), (dC (.int 1)), (dC (.int 3))]))) (dNotT (dTru (dCB (on1 oAll) [(dLc [3] (iVal (dVar 0)) (gN 3) dYes (dCB F_is_hide [(dVar 3)]))])))) sNo sNil)
    (sSeq (sIf (dNotT (dTru (dCB F_are_leaf_sizes [(dVar 1)]))) sNo sNil)
    (sSeq (sFor (iVal (dCB F_all_lots [(dCB (on1 oList) [(dCB (on1 oRange1) [(dCBS oLen 0)])])])) (gN 2) (sIf (dTru (dCB F_can_be_cut [(dLc [3] (iVal (dVar 2)) (gN 3) dYes (dIxS 0 (dVar 3))), (dVar 1)])) (sRet (dVar 2)) sNil))
    (sRet (dC .non)))))
def F_hides_needed : Fn := runF 4 2 d_hides_needed
/-- raw_quarter(hide): 0 hide 1 column 2 row -/
def d_raw_quarter : SD := (sRet (dCB (on1 oTuple) [(dLc [1] (iRng [(dCB (on1 oLen) [(dIxS 0 (dC (.int 0)))])]) (gN 1) dYes (dSM oJoin (dC (.str "")) (dLc [2] (iVal (dUn oRev (dVar 0))) (gN 2) dYes (dIxS 2 (dVar 1)))))]))
def F_raw_quarter : Fn := runF 3 1 d_raw_quarter
/-- turned_hide(hide): 0 hide -/
def d_turned_hide : SD := (sSeq (sExpr (dCB F_check_hide [(dVar 0)]))
    (sRet (dCB F_raw_quarter [(dVar 0)])))
def F_turned_hide : Fn := runF 1 1 d_turned_hide
/-- same_hides(one, other): 0 one 1 other 2 begin 3 here 4 quarter 5 row -/
def d_same_hides : SD := (sSeq (sExpr (dCB F_check_hide [(dVar 0)]))
    (sSeq (sExpr (dCB F_check_hide [(dVar 1)]))
    (sSeq (sFor (iVal (dTup [(dVar 0), (dCB (on1 oTuple) [(dLc [5] (iVal (dVar 0)) (gN 5) dYes (dUn oRev (dVar 5)))])])) (gN 2) (sSeq (sOwn (dVar 2) 3)
    (sFor (iRng [(dC (.int 4))]) (gN 4) (sSeq (sIf (dTB (dBin oEq (dVar 3) (dVar 1))) (sRet (dC (.bl true))) sNil)
    (sOwn (dCB F_raw_quarter [(dVar 3)]) 3)))))
    (sRet (dC (.bl false))))))
def F_same_hides : Fn := runF 6 2 d_same_hides
/-- _law_quarter(hide): 0 hide 1 column 2 row -/
def d__law_quarter : SD := (sRet (dCB (on1 oTuple) [(dLc [1] (iRng [(dCB (on1 oLen) [(dIxS 0 (dC (.int 0)))])]) (gN 1) dYes (dSM oJoin (dC (.str "")) (dLc [2] (iVal (dUn oRev (dVar 0))) (gN 2) dYes (dIxS 2 (dVar 1)))))]))
def F__law_quarter : Fn := runF 3 1 d__law_quarter
/-- _law_are_enough(hides, sizes): 0 hides 1 sizes 2 rows 3 size 4 row 5 longer 6 some 7 hide 8 at 9 part -/
def d__law_are_enough : SD := (sSeq (sOwn (dLst [(dTup [])]) 2)
    (sSeq (sFor (iVal (dVar 1)) (gN 3) (sSeq (sOwn (dLst []) 5)
    (sSeq (sFor (iVal (dVar 2)) (gN 4) (sOwn (dBin oAdd (dVar 5) (dLc [7] (iRng [(dCBS oLen 0)]) (gN 7) dYes (dBin oAdd (dVar 4) (dTup [(dVar 7)])))) 5))
    (sOwn (dVar 5) 2))))
    (sSeq (sFor (iVal (dVar 2)) (gN 4) (sSeq (sOwn (dLc [7] (iRng [(dCBS oLen 0)]) (gN 7) dYes (dLc [3, 8] (iOf zipVs [(dVar 1), (dVar 4)]) (gT 2 (gsCons (gN 3) (gsCons (gN 8) gsNil))) (dTB (dBin oEq (dVar 8) (dVar 7))) (dVar 3))) 6)
    (sIf (dTru (dCB (on1 oAll) [(dLc [7, 9] (iOf zipVs [(dVar 0), (dVar 6)]) (gT 2 (gsCons (gN 7) (gsCons (gN 9) gsNil))) dYes (dBin oGt (dCB (on1 oLen) [(dCB F__law_cuts [(dVar 7), (dVar 9)])]) (dC (.int 0))))])) (sRet (dC (.bl true))) sNil)))
    (sRet (dC (.bl false))))))
def F__law_are_enough : Fn := runF 10 2 d__law_are_enough
/-- _law_alike(hide): 0 hide 1 side 2 found 3 here 4 quarter 5 row -/
def d__law_alike : SD := (sSeq (sParO [2, 3] [(dLst []), (dVar 0)])
    (sSeq (sFor (iRng [(dC (.int 2))]) (gN 1) (sSeq (sFor (iRng [(dC (.int 4))]) (gN 4) (sSeq (sExpr (dApp 2 (dVar 3)))
    (sOwn (dCB F__law_quarter [(dVar 3)]) 3)))
    (sOwn (dCB (on1 oTuple) [(dLc [5] (iVal (dVar 3)) (gN 5) dYes (dUn oRev (dVar 5)))]) 3)))
    (sRet (dVar 2))))
def F__law_alike : Fn := runF 6 1 d__law_alike
/-- law(script): 0 script 1 hand 2 turn 3 hides 4 sizes 5 good 6 turned 7 there 8 hide 9 other 10 lot 11 at -/
def d_law_k86 : SD := (sSeq (sOwn (dCB F__law_hand [(dVar 0)]) 1)
    (sSeq (sFor (iRng [(dC (.int 3))]) (gN 2) (sSeq (sOwn (dCB (on1 oTuple) [(dLc [8] (iRng [(dBin oAdd (dC (.int 1)) (dCallH F__law_draw 1 [(dC (.int 3))]))]) (gN 8) dYes (dCallH F__law_hide 1 [(dC (.int 2))]))]) 3)
    (sSeq (sOwn (dCallH F__law_sizes 1 []) 4)
    (sSeq (sOwn (dLc [10] (iVal (dCB F__law_lots [(dCBS oLen 3)])) (gN 10) (dTru (dCB F__law_are_enough [(dLc [11] (iVal (dVar 10)) (gN 11) dYes (dIxS 3 (dVar 11))), (dVar 4)])) (dVar 10)) 5)
    (sSeq (sIf (dNotT (dTru (dCB (F__law_is 8) [(dCB F_hides_needed [(dVar 3), (dVar 4)]), (dIf (dTB (dBin oGt (dCBS oLen 5) (dC (.int 0)))) (dIxS 5 (dC (.int 0))) (dC .non))]))) (sRet (dC (.bl false))) sNil)
    (sSeq (sParO [8, 9] [(dCallH F__law_hide 1 [(dC (.int 3))]), (dCallH F__law_hide 1 [(dC (.int 3))])])
    (sSeq (sOwn (dCB F__law_quarter [(dVar 8)]) 6)
    (sSeq (sIf (dOrT (dNotT (dTru (dCB (F__law_is 8) [(dCB F_turned_hide [(dVar 8)]), (dVar 6)]))) (dTB (dBin oNe (dCB F_cuts_count [(dVar 6), (dVar 4)]) (dCB F_cuts_count [(dVar 8), (dVar 4)])))) (sRet (dC (.bl false))) sNil)
    (sFor (iVal (dTup [(dVar 9), (dVar 6), (dCallH F__law_some 1 [(dCB F__law_alike [(dVar 8)])])])) (gN 7) (sIf (dNotT (dTru (dCB (F__law_is 8) [(dCB F_same_hides [(dVar 8), (dVar 7)]), (dBin oIn (dVar 7) (dCB F__law_alike [(dVar 8)]))]))) (sRet (dC (.bl false))) sNil))))))))))
    (sRet (dC (.bl true)))))
def F_law_k86 : Fn := runF 12 1 d_law_k86
end Pc

namespace PV
open PySem PySem.Spec PyProof.Rows L2
open EV (enc)
open PH (szl)
/-- a text of signs -/
def small (l : List Nat) : Bool := l.all fun c => decide (c < 128)
@[ext] structure Tx where
  l : List Nat
  ok : small l = true
  deriving DecidableEq
def tx (l : List Nat) : Val := .str ⟨l.toArray⟩
instance : EV Tx where
  enc := fun t => tx t.l
  dep := 0
  lay := fun a => by
    simp only [tx, toD, PyData.canLay0]
    have := a.ok
    unfold small at this
    simp only [PyData.strOk, List.all_toArray, List.all_eq_true, decide_eq_true_eq] at this ⊢
    exact fun c hc => by have := this c hc; omega
  dp := fun a => by simp [tx, toD, PyData.depth]
  eqv := fun a b => by
    simp only [tx, eqV, toD, PyData.eqv]
    constructor
    · intro h
      have h : (⟨a.l.toArray⟩ : Str) = ⟨b.l.toArray⟩ := by simpa using h
      injection h with h
      have := congrArg Array.toList h
      simp at this
      exact Tx.ext this
    · rintro rfl; simp
@[simp] theorem enc_tx (t : Tx) : enc t = tx t.l := rfl
section
variable {α : Type} (l m : List Nat)
theorem oEq_x (h : small l = true) (h2 : small m = true) : oEq (tx l) (tx m) = .ok (.bl (decide (l = m)), false) := by
  have := oEq_e (Tx.mk l h) (Tx.mk m h2) (by decide)
  simpa using this
theorem oNe_x (h : small l = true) (h2 : small m = true) : oNe (tx l) (tx m) = .ok (.bl (!decide (l = m)), false) := by
  have := oNe_e (Tx.mk l h) (Tx.mk m h2) (by decide)
  simpa using this
theorem oLen_x (h : l.length ≤ sizeLine) : oLen (tx l) = .ok (.int l.length, false) := by
  unfold oLen tx
  simp only
  rw [if_pos (by simpa [Str.length] using h)]
  simp [Str.length]
@[simp] theorem seqV_x : seqV (tx l) = some (l.map fun c => tx [c]) := by simp [seqV, tx]
theorem seqKV_x (h : l.length ≤ sizeLine) : seqKV (tx l) = some (l.map fun c => tx [c]) := by
  unfold seqKV tx
  simp only
  rw [if_pos (by simpa [Str.length] using h)]
  simp [signsD]
theorem enumV_x (h : l.length ≤ sizeLine) : enumV [tx l] = some (l.zipIdx.map fun p => .tup [.int p.2, tx [p.1]]) := by
  show (seqKV (tx l)).map enumD = _
  rw [seqKV_x l h]
  simp only [Option.map_some, enumD]
  congr 1
  apply List.ext_getElem
  · simp
  · intro i h1 h2; simp
theorem enumV_t (vs : List Val) : enumV [.tup vs] = some (vs.zipIdx.map fun p => .tup [.int p.2, p.1]) := by
  simp only [enumV, seqKV, Option.map_some, enumD]
  congr 1
  apply List.ext_getElem
  · simp
  · intro i h1 h2; simp
theorem enumV_l (vs : List Val) : enumV [.lst vs] = some (vs.zipIdx.map fun p => .tup [.int p.2, p.1]) := by
  simp only [enumV, seqKV, Option.map_some, enumD]
  congr 1
  apply List.ext_getElem
  · simp
  · intro i h1 h2; simp
theorem oIx_x (i : Int) {c : Nat} (hl : l.length ≤ sizeLine) (h : atI l i = some c) : oIx (tx l) (.int i) = .ok (tx [c], false) := by
  unfold oIx tx
  simp only
  rw [if_pos (by simpa [Str.length] using hl)]
  simp only [h]
theorem oSl_x (lo hi : Option Int) (hl : l.length ≤ sizeLine) : oSl (tx l) lo hi = .ok (tx (cut l lo hi), false) := by
  unfold oSl tx
  simp only
  rw [if_pos (by simpa [Str.length] using hl)]
  simp [cutS, cut, Str.length]
theorem oAdd_x (h : l.length + m.length ≤ sizeLine) : oAdd (tx l) (tx m) = .ok (tx (l ++ m), false) := by
  unfold oAdd tx
  simp only
  rw [if_pos (by simpa [Str.length] using h)]
  congr 2
  show Val.str (Str.append _ _) = _
  simp [Str.append]
theorem oRev_x (hl : l.length ≤ sizeLine) : oRev (tx l) = .ok (tx l.reverse, false) := by
  unfold oRev tx
  simp only
  rw [if_pos (by simpa [Str.length] using hl)]
  simp [revS]
@[simp] theorem oRev_t (vs : List Val) : oRev (.tup vs) = .ok (.tup vs.reverse, false) := rfl
@[simp] theorem oRev_l (vs : List Val) : oRev (.lst vs) = .ok (.lst vs.reverse, true) := rfl
@[simp] theorem ixp_0 (a b : Val) : oIx (.tup [a, b]) (.int 0) = .ok (a, false) := rfl
@[simp] theorem ixp_1 (a b : Val) : oIx (.tup [a, b]) (.int 1) = .ok (b, false) := rfl
theorem oIn_l [EV α] [DecidableEq α] (a : α) (xs : List α) (h : EV.dep α ≤ 64) : oIn (enc a) (.lst (xs.map enc)) = .ok (.bl (decide (a ∈ xs)), false) := by unfold oIn; rw [oInB_l a xs h]; rfl
theorem oIn_t [EV α] [DecidableEq α] (a : α) (xs : List α) (h : EV.dep α ≤ 64) : oIn (enc a) (.tup (xs.map enc)) = .ok (.bl (decide (a ∈ xs)), false) := by unfold oIn; rw [oInB_t a xs h]; rfl
theorem oNotIn_l [EV α] [DecidableEq α] (a : α) (xs : List α) (h : EV.dep α ≤ 64) : oNotIn (enc a) (.lst (xs.map enc)) = .ok (.bl (!decide (a ∈ xs)), false) := by unfold oNotIn; rw [oInB_l a xs h]; rfl
theorem oNotIn_t [EV α] [DecidableEq α] (a : α) (xs : List α) (h : EV.dep α ≤ 64) : oNotIn (enc a) (.tup (xs.map enc)) = .ok (.bl (!decide (a ∈ xs)), false) := by unfold oNotIn; rw [oInB_t a xs h]; rfl
@[simp] theorem oAny_f (xs : List α) (p : α → Bool) : oAny (.lst (xs.map fun x => .bl (p x))) = .ok (.bl (xs.any p), false) := by
  have := oAny_l (xs.map p)
  rw [List.map_map] at this
  rw [show (fun x => Val.bl (p x)) = Val.bl ∘ p from rfl, this, List.any_map]; rfl
@[simp] theorem oIn_x1 (c : Nat) : oIn (tx [c]) (tx m) = .ok (.bl (decide (c ∈ m)), false) := by
  simp [oIn, oInB, tx, sign1]
@[simp] theorem isNon_x : isNon (tx l) = false := rfl
@[simp] theorem isi_xs : oIsi (tx l) (.ty "str") = .ok (.bl true, false) := rfl
@[simp] theorem isi_xt : oIsi (tx l) (.ty "tuple") = .ok (.bl false, false) := rfl
@[simp] theorem isi_xl : oIsi (tx l) (.ty "list") = .ok (.bl false, false) := rfl
@[simp] theorem isi_xi : oIsi (tx l) (.ty "int") = .ok (.bl false, false) := rfl
@[simp] theorem isi_xd : oIsi (tx l) (.ty "dict") = .ok (.bl false, false) := rfl
theorem str_tx (s : Str) : Val.str s = tx s.cps.toList := by cases s; simp [tx]
end
theorem glue0 : ∀ (ls : List (List Nat)) (acc : Array Nat), (ls.map fun l => (⟨l.toArray⟩ : Str)).foldl (fun acc p => acc ++ (⟨#[]⟩ : Str).cps ++ p.cps) acc = acc ++ ls.flatten.toArray
  | [], acc => by simp
  | l :: ls, acc => by
    rw [List.map_cons, List.foldl_cons, glue0 ls]
    simp
theorem join0 (ls : List (List Nat)) : Txt.join ⟨#[]⟩ (ls.map fun l => (⟨l.toArray⟩ : Str)) = ⟨ls.flatten.toArray⟩ := by
  unfold Txt.join Builtin.Str.glued
  cases ls with
  | nil => rfl
  | cons l ls =>
    simp only [List.map_cons, List.drop_succ_cons, List.drop_zero, List.headD_cons]
    rw [glue0]; try simp
theorem oJoinL_x (ls : List (List Nat)) (h : ls.flatten.length ≤ 1000000) : oJoinL ⟨#[]⟩ (ls.map tx) = .ok (tx ls.flatten, false) := by
  have e : ls.map tx = (ls.map fun l => (⟨l.toArray⟩ : Str)).map Val.str := by rw [List.map_map]; rfl
  unfold oJoinL
  rw [e, strsV_map]
  simp only
  rw [join0, if_pos]
  · rfl
  · unfold joinOk
    apply decide_eq_true
    rw [List.map_map]
    have : (ls.map ((·.length) ∘ fun l => (⟨l.toArray⟩ : Str))).sum = ls.flatten.length := by
      rw [List.length_flatten]; rfl
    rw [this, show (⟨#[]⟩ : Str).length = 0 from rfl]
    omega
@[simp] theorem oJoin_l (s : Str) (vs : List Val) : oJoin s (.lst vs) = oJoinL s vs := rfl
@[simp] theorem oJoin_t (s : Str) (vs : List Val) : oJoin s (.tup vs) = oJoinL s vs := rfl
/-- .. of single signs -/
theorem oJoinL_1 {α : Type} (xs : List α) (c : α → Nat) (h : xs.length ≤ 1000000) : oJoinL ⟨#[]⟩ (xs.map fun x => tx [c x]) = .ok (tx (xs.map c), false) := by
  have := oJoinL_x (xs.map fun x => [c x]) (by
    have : (xs.map fun x => [c x]).flatten = xs.map c := by
      induction xs with
      | nil => rfl
      | cons x xs ih => simp [ih (by simp at h; omega)]
    rw [this, List.length_map]; exact h)
  rw [List.map_map] at this
  rw [show (fun x => tx [c x]) = tx ∘ fun x => [c x] from rfl, this]
  congr 2
  have : (xs.map fun x => [c x]).flatten = xs.map c := by
    clear this h
    induction xs with
    | nil => rfl
    | cons x xs ih => simp [ih]
  rw [this]
@[simp] theorem lit_empty : (Str.ofString "") = ⟨#[]⟩ := by decide +kernel
@[simp] theorem dOwns_nil (env : EnvD) : dOwns [] env = .ok ([], env) := rfl
@[simp] theorem dOwns_cons (d : ED) (ds : List ED) (env : EnvD) : dOwns (d :: ds) env = (d env >>= fun a => dOwns ds a.2.2 >>= fun r => .ok ((a.1, a.2.1) :: r.1, r.2)) := rfl
@[simp] theorem bindAll_nil (env : EnvD) : bindAll [] [] env = .ok env := rfl
@[simp] theorem bindAll_cons (j : Nat) (js : List Nat) (r : Val × Bool) (rs : List (Val × Bool)) (env : EnvD) : bindAll (j :: js) (r :: rs) env = bindAll js rs (env.set j (if r.2 then .own r.1 else .frz r.1)) := rfl
@[simp] theorem sParO_a (js : List Nat) (ds : List ED) (env : EnvD) : sParO js ds env = (dOwns ds env >>= fun r => bindAll js r.1 r.2 >>= fun env => .ok (.nx env)) := rfl
/-- a name that is never ours -/
def sl : Option Val → PV.Slot
  | none => .emp
  | some v => .frz v
@[simp] theorem frz_sl (v : Val) (a : Option Val) : (PV.Slot.frz v = sl a) ↔ a = some v := by
  cases a <;> simp [sl, eq_comm]
@[simp] theorem sl_sl (a b : Option Val) : (sl a = sl b) ↔ b = a := by
  cases a <;> cases b <;> simp [sl, eq_comm]
@[simp] theorem emp_sl (a : Option Val) : (PV.Slot.emp = sl a) ↔ a = none := by
  cases a <;> simp [sl]
/-- a name that may be ours still -/
def ow (b : Bool) (v : Val) : PV.Slot := if b then .own v else .frz v
@[simp] theorem ow_t (v : Val) : ow true v = .own v := rfl
@[simp] theorem ow_f (v : Val) : ow false v = .frz v := rfl
@[simp] theorem frz_ow (v w : Val) (b : Bool) : (PV.Slot.frz v = ow b w) ↔ (b = false ∧ v = w) := by
  cases b <;> simp [ow]
@[simp] theorem ow_ow (v w : Val) (a b : Bool) : (ow a v = ow b w) ↔ (b = a ∧ v = w) := by
  cases a <;> cases b <;> simp [ow]
theorem szl2 {n : Nat} (h : n ≤ 2000000) : n ≤ sizeLine := by rw [show sizeLine = 16777216 from rfl]; omega
@[simp] theorem dSM_a (f : Str → Val → Res (Val × Bool)) (da db : ED) (env : EnvD) : dSM f da db env = (da env >>= fun a => match a.1 with
  | .str s => db a.2.2 >>= fun b => f s b.1 >>= fun z => .ok (z.1, z.2, b.2.2)
  | _ => .bad) := rfl
end PV

namespace PV
open PySem PySem.Spec PyProof.Rows L2
open EV (enc)
open PH (szl)
/-- comprehensions where the names may change a little -/
theorem lcI {α : Type} {own : List Nat} {it : ID} {g : GD} {t : TD} {elt : ED} {env env1 : EnvD} (xs : List α) (e f : α → Val) (p : α → Bool) (I : EnvD → Prop) (hit : it env = .ok (xs.map e, env1)) (hno : noOwn env1 own = true) (hlen : xs.length ≤ sizeLine) (h0 : I (wipeD env1 own))
    (h : ∀ x ∈ xs, ∀ en, I en → (lcStep g t elt (e x) en).Is fun z => z.1 = (if p x then some (f x) else none) ∧ I (wipeD z.2 own)) : ∃ en, I en ∧ dLc own it g t elt env = .ok (.lst ((xs.filter p).map f), true, backD env1 en own) := by
  have key := lc_inv (own := own) (g := g) (t := t) (elt := elt) (Q := fun r => ∃ en, I en ∧ r = (.lst ((xs.filter p).map f), true, backD env1 en own)) (fun i acc en => acc = ((xs.take i).filter p).map f ∧ I en) hit hno (by rw [List.length_map]; exact hlen) ⟨by simp, h0⟩
    (fun i hi acc en ⟨ha, hI⟩ => by
      have hi' : i < xs.length := by simpa using hi
      rw [List.getElem_map]
      refine (h xs[i] (List.getElem_mem _) en hI).mono fun z hz => ?_
      obtain ⟨h1, h2⟩ := hz
      refine ⟨?_, h2⟩
      rw [h1, ha, List.take_add_one, List.getElem?_eq_getElem hi', List.filter_append, List.map_append]
      congr 1
      cases hp : p xs[i] <;> simp [hp]) (fun acc en ⟨ha, hI⟩ => ⟨en, hI, by rw [ha, List.length_map, List.take_length]⟩)
  obtain ⟨r, h1, en, h2, h3⟩ := key.ex
  exact ⟨en, h2, by rw [h1, h3]⟩
theorem oSorted_p {α β : Type} [OV α] [OV β] [DecidableEq α] [DecidableEq β] (xs : List (α × β)) (h : EV.dep (α × β) ≤ 60) : oSorted (.lst (xs.map enc)) = .ok (.lst ((xs.mergeSort fun a b => !OV.lt b a).map enc), true) := by
  rw [sorted_of, sortV, merge_map enc (fun a b => !OV.lt b a) leV fun a b => by unfold leV; rw [OV.ltv b a]]
  unfold sortOk
  rw [dataOk_map _ h, alikes_map, Bool.true_and, Bool.true_and, Bool.or_eq_true]
  left
  rw [List.all_eq_true]
  intro v hv
  obtain ⟨a, ha, rfl⟩ := List.mem_map.mp hv
  rfl
def sortL {α : Type} [OV α] (xs : List α) : List α := xs.mergeSort fun a b => !OV.lt b a
theorem sortL_perm {α : Type} [OV α] (xs : List α) : (sortL xs).Perm xs := List.mergeSort_perm _ _
theorem sortL_sorted {α : Type} [OV α] [DecidableEq α] (xs : List α) : List.Pairwise (fun a b => OV.lt b a = false) (sortL xs) := by
  have := List.pairwise_mergeSort (le := fun a b : α => !OV.lt b a) (fun a b c h1 h2 => by
    simp only [Bool.not_eq_true'] at h1 h2 ⊢
    cases q : OV.lt c a with
    | false => rfl
    | true =>
      cases q2 : OV.lt a b with
      | true => rw [OV.tr _ _ _ q q2] at h2; cases h2
      | false =>
        have := OV.tot _ _ q2 h1
        subst this; rw [h2] at q; cases q) (fun a b => by
    cases q : OV.lt b a with
    | false => rfl
    | true =>
      cases q2 : OV.lt a b with
      | false => rfl
      | true => have := OV.tr _ _ _ q q2; rw [OV.irr] at this; cases this) xs
  exact this.imp fun h => by simpa using h
theorem sort_is {α : Type} [OV α] [DecidableEq α] {xs ys : List α} (hp : ys.Perm xs) (hs : List.Pairwise (fun a b => OV.lt b a = false) ys) : sortL xs = ys :=
  List.Perm.eq_of_pairwise (le := fun a b : α => OV.lt b a = false) (fun a b _ _ h1 h2 => OV.tot _ _ h2 h1) (sortL_sorted xs) hs ((sortL_perm xs).trans hp.symm)
/-! ### the parts of a list -/
def subs {α : Type} (xs : List α) : List (List α) := xs.foldl (fun f x => f ++ f.map (· ++ [x])) [[]]
theorem subs_snoc {α : Type} (xs : List α) (x : α) : subs (xs ++ [x]) = subs xs ++ (subs xs).map (· ++ [x]) := by unfold subs; rw [List.foldl_append]; rfl
theorem subs_len {α : Type} : ∀ (n : Nat) (xs : List α), xs.length = n → (subs xs).length = 2 ^ n
  | 0, xs, h => by rw [List.length_eq_zero_iff.mp h]; rfl
  | n + 1, xs, h => by
    have hne : xs ≠ [] := by intro z; subst z; simp at h
    rw [(List.dropLast_concat_getLast hne).symm, subs_snoc]
    have := subs_len n xs.dropLast (by simp; omega)
    simp [this]; omega
theorem subs_each {α : Type} : ∀ (n : Nat) (xs : List α), xs.length = n → ∀ l ∈ subs xs, l.length ≤ n ∧ ∀ x ∈ l, x ∈ xs
  | 0, xs, h, l, hl => by
    have := List.length_eq_zero_iff.mp h
    subst this
    simp [subs] at hl; subst hl; simp
  | n + 1, xs, h, l, hl => by
    have hne : xs ≠ [] := by intro z; subst z; simp at h
    obtain ⟨ys, y, rfl⟩ : ∃ ys y, xs = ys ++ [y] := ⟨xs.dropLast, xs.getLast hne, (List.dropLast_concat_getLast hne).symm⟩
    have hn : ys.length = n := by simpa using h
    rw [subs_snoc] at hl
    rcases List.mem_append.mp hl with hl | hl
    · have := subs_each n ys hn l hl
      exact ⟨by omega, fun x hx => by simp [this.2 x hx]⟩
    · obtain ⟨m, hm, rfl⟩ := List.mem_map.mp hl
      have := subs_each n ys hn m hm
      refine ⟨by simp; omega, fun x hx => ?_⟩
      rcases List.mem_append.mp hx with hx | hx
      · simp [this.2 x hx]
      · simp [List.mem_singleton.mp hx]
def lotsL {α : Type} [OV α] [DecidableEq α] (xs : List α) : List (List α) := (sortL ((subs xs).map fun l => (l.length, l))).map (·.2)
end PV

namespace PV
open PySem PySem.Spec PyProof.Rows L2
open EV (enc)
/-! ### the best of a list -/
theorem best1_spec {α : Type} [OV α] : ∀ (xs : List α) (x : α), best1 OV.lt x xs ∈ x :: xs ∧ ∀ y ∈ x :: xs, OV.lt y (best1 OV.lt x xs) = false
  | [], x => ⟨by simp [best1], fun y hy => by
    obtain rfl : y = x := by simpa using hy
    exact OV.irr _⟩
  | z :: xs, x => by
    have e : best1 OV.lt x (z :: xs) = best1 OV.lt (if OV.lt z x then z else x) xs := rfl
    rw [e]
    obtain ⟨h1, h2⟩ := best1_spec xs (if OV.lt z x then z else x)
    generalize hm : best1 OV.lt (if OV.lt z x then z else x) xs = m at h1 h2
    have h3 := h2 (if OV.lt z x then z else x) (by simp)
    constructor
    · rcases List.mem_cons.mp h1 with h | h
      · rw [h]; split <;> simp
      · simp [h]
    · intro y hy
      rcases List.mem_cons.mp hy with rfl | hy
      · by_cases c : OV.lt z y = true
        · rw [if_pos c] at h3
          cases q : OV.lt y m with
          | false => rfl
          | true => rw [OV.tr _ _ _ c q] at h3; cases h3
        · rw [if_neg c] at h3; exact h3
      · rcases List.mem_cons.mp hy with rfl | hy
        · by_cases c : OV.lt y x = true
          · rw [if_pos c] at h3; exact h3
          · rw [if_neg c] at h3
            have c : OV.lt y x = false := by simpa using c
            cases q : OV.lt y m with
            | false => rfl
            | true =>
              by_cases c2 : OV.lt x y = true
              · rw [OV.tr _ _ _ c2 q] at h3; cases h3
              · have := OV.tot _ _ c (by simpa using c2)
                subst this; rw [h3] at q; cases q
        · exact h2 y (by simp [hy])
theorem bestM_spec {α : Type} [OV α] : ∀ (xs : List α) (x : α), best1 (fun y a => OV.lt a y) x xs ∈ x :: xs ∧ ∀ y ∈ x :: xs, OV.lt (best1 (fun y a => OV.lt a y) x xs) y = false
  | [], x => ⟨by simp [best1], fun y hy => by
    obtain rfl : y = x := by simpa using hy
    exact OV.irr _⟩
  | z :: xs, x => by
    have e : best1 (fun y a => OV.lt a y) x (z :: xs) = best1 (fun y a => OV.lt a y) (if OV.lt x z then z else x) xs := rfl
    rw [e]
    obtain ⟨h1, h2⟩ := bestM_spec xs (if OV.lt x z then z else x)
    generalize hm : best1 (fun y a => OV.lt a y) (if OV.lt x z then z else x) xs = m at h1 h2
    have h3 := h2 (if OV.lt x z then z else x) (by simp)
    constructor
    · rcases List.mem_cons.mp h1 with h | h
      · rw [h]; split <;> simp
      · simp [h]
    · intro y hy
      rcases List.mem_cons.mp hy with rfl | hy
      · by_cases c : OV.lt y z = true
        · rw [if_pos c] at h3
          cases q : OV.lt m y with
          | false => rfl
          | true => rw [OV.tr _ _ _ q c] at h3; cases h3
        · rw [if_neg c] at h3; exact h3
      · rcases List.mem_cons.mp hy with rfl | hy
        · by_cases c : OV.lt x y = true
          · rw [if_pos c] at h3; exact h3
          · rw [if_neg c] at h3
            have c : OV.lt x y = false := by simpa using c
            cases q : OV.lt m y with
            | false => rfl
            | true =>
              by_cases c2 : OV.lt y x = true
              · rw [OV.tr _ _ _ q c2] at h3; cases h3
              · have := OV.tot _ _ c (by simpa using c2)
                subst this; rw [h3] at q; cases q
        · exact h2 y (by simp [hy])
/-- the least, the greatest of a list -/
def minL {α : Type} [OV α] : List α → Option α
  | [] => none
  | x :: xs => some (best1 OV.lt x xs)
def maxL {α : Type} [OV α] : List α → Option α
  | [] => none
  | x :: xs => some (best1 (fun y a => OV.lt a y) x xs)
theorem minL_none {α : Type} [OV α] {xs : List α} : minL xs = none ↔ xs = [] := by cases xs <;> simp [minL]
theorem maxL_none {α : Type} [OV α] {xs : List α} : maxL xs = none ↔ xs = [] := by cases xs <;> simp [maxL]
theorem minL_some {α : Type} [OV α] {xs : List α} {m : α} : minL xs = some m ↔ m ∈ xs ∧ ∀ y ∈ xs, OV.lt y m = false := by
  cases xs with
  | nil => simp [minL]
  | cons x xs =>
    obtain ⟨h1, h2⟩ := best1_spec xs x
    simp only [minL, Option.some.injEq]
    constructor
    · rintro rfl; exact ⟨h1, h2⟩
    · rintro ⟨h3, h4⟩
      exact OV.tot _ _ (h4 _ h1) (h2 _ h3)
theorem maxL_some {α : Type} [OV α] {xs : List α} {m : α} : maxL xs = some m ↔ m ∈ xs ∧ ∀ y ∈ xs, OV.lt m y = false := by
  cases xs with
  | nil => simp [maxL]
  | cons x xs =>
    obtain ⟨h1, h2⟩ := bestM_spec xs x
    simp only [maxL, Option.some.injEq]
    constructor
    · rintro rfl; exact ⟨h1, h2⟩
    · rintro ⟨h3, h4⟩
      exact OV.tot _ _ (h2 _ h3) (h4 _ h1)
theorem minL_congr {α : Type} [OV α] {xs ys : List α} (h : ∀ a, a ∈ xs ↔ a ∈ ys) : minL xs = minL ys := by
  cases e : minL xs with
  | none =>
    rw [minL_none] at e; subst e
    cases ys with
    | nil => rfl
    | cons y ys => have := (h y).mpr (by simp); cases this
  | some m =>
    rw [minL_some] at e
    exact (minL_some.mpr ⟨(h m).mp e.1, fun y hy => e.2 y ((h y).mpr hy)⟩).symm
theorem maxL_congr {α : Type} [OV α] {xs ys : List α} (h : ∀ a, a ∈ xs ↔ a ∈ ys) : maxL xs = maxL ys := by
  cases e : maxL xs with
  | none =>
    rw [maxL_none] at e; subst e
    cases ys with
    | nil => rfl
    | cons y ys => have := (h y).mpr (by simp); cases this
  | some m =>
    rw [maxL_some] at e
    exact (maxL_some.mpr ⟨(h m).mp e.1, fun y hy => e.2 y ((h y).mpr hy)⟩).symm
theorem max_map {α : Type} [OV α] (xs : List α) (h : EV.dep α ≤ 60) (m : α) (e : maxL xs = some m) : oBest maxV (.lst (xs.map enc)) = .ok (enc m, false) := by
  cases xs with
  | nil => cases e
  | cons x xs =>
    rw [oMax_l _ _ h]
    have e := Option.some.inj e
    rw [← e]
theorem min_map {α : Type} [OV α] (xs : List α) (h : EV.dep α ≤ 60) (m : α) (e : minL xs = some m) : oBest minV (.lst (xs.map enc)) = .ok (enc m, false) := by
  cases xs with
  | nil => cases e
  | cons x xs =>
    rw [oMin_l _ _ h]
    have e := Option.some.inj e
    rw [← e]
theorem max_mapT {α : Type} [OV α] (xs : List α) (h : EV.dep α ≤ 60) (m : α) (e : maxL xs = some m) : oBest maxV (.tup (xs.map enc)) = .ok (enc m, false) := by
  cases xs with
  | nil => cases e
  | cons x xs =>
    rw [oMax_t _ _ h]
    have e := Option.some.inj e
    rw [← e]
theorem min_mapT {α : Type} [OV α] (xs : List α) (h : EV.dep α ≤ 60) (m : α) (e : minL xs = some m) : oBest minV (.tup (xs.map enc)) = .ok (enc m, false) := by
  cases xs with
  | nil => cases e
  | cons x xs =>
    rw [oMin_t _ _ h]
    have e := Option.some.inj e
    rw [← e]
end PV

namespace Sh
open PySem PySem.Spec PyProof.Rows L2 PV
open EV (enc)
open PH (szl)
section
variable {α : Type} [OV α] [DecidableEq α]
theorem all_lots_ok (xs : List α) (hl : xs.length ≤ 8) (hd : EV.dep α ≤ 20) (v : Val) (hv : seqV v = some (xs.map enc)) : F_all_lots [v] = .ok (.lst ((lotsL xs).map enc), true) := by
  have key := for_inv (g := gN 2) (b := (sOwn (dBin oAdd (dVar 1) (dLc [4] (iVal (dVar 1)) (gN 4) dYes (dBin oAdd (dVar 4) (dTup [(dVar 2)])))) 1)) (Q := fun r => ∃ t2, r = .nx [.frz v, .own (.lst ((subs xs).map enc)), t2, .emp, .emp]) (xs.map enc)
    (fun i env => ∃ t2, env = [.frz v, .own (.lst ((subs (xs.take i)).map enc)), t2, .emp, .emp]) [.frz v, .own (.lst [.tup []]), .emp, .emp, .emp] ⟨.emp, by simp [subs]⟩ ?_ ?_
  · obtain ⟨r, k, t2, rfl⟩ := key.ex
    have hn := subs_len xs.length xs rfl
    have hn2 : 2 ^ xs.length ≤ 256 := Nat.le_trans (Nat.pow_le_pow_right (by decide) hl) (by decide)
    unfold lotsL
    have hs := oSorted_p ((subs xs).map fun l => (l.length, l)) (show max 0 (EV.dep α + 1) + 1 ≤ 60 by omega)
    rw [show (((subs xs).map fun l => (l.length, l)).mergeSort fun a b => !OV.lt b a) = sortL ((subs xs).map fun l => (l.length, l)) from rfl] at hs
    have hsl : (sortL ((subs xs).map fun l => (l.length, l))).length ≤ 256 := by rw [(sortL_perm _).length_eq, List.length_map]; omega
    simp [F_all_lots, runF, d_all_lots, hv, k]
    generalize subs xs = ss at *
    generalize sortL (ss.map fun l => (l.length, l)) = st at *
    have s1 : dLc [4] (iVal (dVar 1)) (gN 4) dYes (dTup [(dCBS oLen 4), (dVar 4)]) [.frz v, .own (.lst (ss.map enc)), t2, .emp, .emp] = .ok (.lst (ss.map fun l => .tup [.int l.length, enc l]), true, [.frz v, .frz (.lst (ss.map enc)), t2, .emp, .emp]) := by
      rw [lc_map (env1 := [.frz v, .frz (.lst (ss.map enc)), t2, .emp, .emp]) ss enc (fun l => .tup [.int l.length, enc l]) (by simp) (by simp) (szl (by omega)) (fun l hl => by simp) (by simp)]
    simp [Function.comp_def] at hs s1
    rw [lc_map (env1 := [.frz v, .frz (.lst (ss.map enc)), t2, .emp, .emp]) st (fun p => .tup [.int p.1, .tup (p.2.map enc)]) (fun p => enc p.2) (by simp [hs, s1, Function.comp_def]) (by simp) (szl (by omega)) (fun p hp => by simp) (by simp)]
    simp [Function.comp_def]
  · rintro i hi env ⟨t2, rfl⟩
    have hi' : i < xs.length := by simpa using hi
    rw [List.getElem_map, List.take_add_one, List.getElem?_eq_getElem hi']
    simp only [Option.toList_some]
    rw [subs_snoc]
    have hn := subs_len (xs.take i).length (xs.take i) rfl
    have hn2 : 2 ^ (xs.take i).length ≤ 256 := Nat.le_trans (Nat.pow_le_pow_right (by decide) (show (xs.take i).length ≤ 8 by rw [List.length_take]; omega)) (by decide)
    have he := subs_each (xs.take i).length (xs.take i) rfl
    have hi8 : (xs.take i).length ≤ 8 := by rw [List.length_take]; omega
    generalize subs (xs.take i) = ss at *
    generalize (xs.take i).length = m at *
    generalize xs[i] = x at *
    have s1 : dLc [4] (iVal (dVar 1)) (gN 4) dYes (dBin oAdd (dVar 4) (dTup [(dVar 2)])) [.frz v, .frz (.lst (ss.map enc)), .frz (enc x), .emp, .emp] = .ok (.lst (ss.map fun l => .tup ((l ++ [x]).map enc)), true, [.frz v, .frz (.lst (ss.map enc)), .frz (enc x), .emp, .emp]) := by
      rw [lcM ss enc (fun l => .tup ((l ++ [x]).map enc)) (by simp) (szl (by omega)) (fun l hl => by
        have := oAdd_tt (l.map enc) [enc x] (szl (by have := (he l hl).1; simp; omega))
        simp [this]) (by simp) (by simp)]
    have := oAdd_ll (ss.map enc) (ss.map fun l => .tup ((l ++ [x]).map enc)) (szl (by simp; omega))
    simp at this s1
    simp [this, s1, Function.comp_def]
  · rintro env ⟨t2, rfl⟩
    exact ⟨t2, by simp⟩
end
end Sh

namespace Sh
open PySem PySem.Spec PyProof.Rows L2 PV
open EV (enc)
open PH (szl)
/-- plain data, n deep at most -/
def plainD : Nat → Val → Bool
  | 0, _ => false
  | n + 1, .tup vs => decide (vs.length ≤ 1000000) && vs.all (plainD n)
  | n + 1, .lst vs => decide (vs.length ≤ 1000000) && vs.all (plainD n)
  | _ + 1, .int _ => true
  | _ + 1, .bl _ => true
  | _ + 1, .non => true
  | _ + 1, .str s => okV (.str s)
  | _, _ => false
theorem zip_same (vs : List Val) : zipD vs vs = vs.map fun v => .tup [v, v] := by
  unfold zipD
  induction vs with
  | nil => rfl
  | cons v vs ih => simp [ih]
theorem law_is_ok : ∀ (n : Nat) (v : Val), plainD n v = true → F__law_is n [v, v] = .ok (.bl true, false)
  | 0, v, h => by simp [plainD] at h
  | n + 1, v, h => by
    show runF 5 2 (d__law_is (F__law_is n)) [v, v] = _
    cases v with
    | non =>
      have a1 : oIsi .non (.tup [.ty "tuple", .ty "list"]) = .ok (.bl false, false) := rfl
      have a2 : oIsi .non (.ty "dict") = .ok (.bl false, false) := rfl
      have a3 : oIsi .non (.ty "str") = .ok (.bl false, false) := rfl
      have a4 : oEq .non .non = .ok (.bl true, false) := isRes_eq (by decide +kernel)
      simp [runF, d__law_is, a1, a2, a3, a4]
    | bl b =>
      have a1 : oIsi (.bl b) (.tup [.ty "tuple", .ty "list"]) = .ok (.bl false, false) := rfl
      have a2 : oIsi (.bl b) (.ty "dict") = .ok (.bl false, false) := rfl
      have a3 : oIsi (.bl b) (.ty "str") = .ok (.bl false, false) := rfl
      simp [runF, d__law_is, a1, a2, a3]
    | int i =>
      have a1 : oIsi (.int i) (.tup [.ty "tuple", .ty "list"]) = .ok (.bl false, false) := rfl
      have a2 : oIsi (.int i) (.ty "dict") = .ok (.bl false, false) := rfl
      have a3 : oIsi (.int i) (.ty "str") = .ok (.bl false, false) := rfl
      simp [runF, d__law_is, a1, a2, a3]
    | str s =>
      have a1 : oIsi (.str s) (.tup [.ty "tuple", .ty "list"]) = .ok (.bl false, false) := rfl
      have a2 : oIsi (.str s) (.ty "dict") = .ok (.bl false, false) := rfl
      have a3 : oIsi (.str s) (.ty "str") = .ok (.bl true, false) := rfl
      have a4 : oEq (.str s) (.str s) = .ok (.bl true, false) := by
        have h : okV (.str s) = true := h
        unfold oEq
        rw [h]
        simp [PV.eqV, toD, PyData.eqv]
      simp [runF, d__law_is, a1, a2, a3, a4]
    | tup vs =>
      have h : (decide (vs.length ≤ 1000000) && vs.all (plainD n)) = true := h
      rw [Bool.and_eq_true, List.all_eq_true] at h
      obtain ⟨h1, h2⟩ := h
      have h1 := of_decide_eq_true h1
      have a1 : oIsi (.tup vs) (.tup [.ty "tuple", .ty "list"]) = .ok (.bl true, false) := rfl
      have z : zipVs [.tup vs, .tup vs] = some (vs.map fun v => .tup [v, v]) := by rw [← zip_same]; rfl
      simp [runF, d__law_is, a1]
      rw [lcM vs (fun v => .tup [v, v]) (fun _ => .bl true) (by simp [z]) (szl h1) (fun v hv => by simp [law_is_ok n v (h2 v hv)]) (by simp) (by simp)]
      have := oAll_f vs (fun _ => true)
      generalize (vs.map fun _ => Val.bl true) = L at *
      simp [this]
    | lst vs =>
      have h : (decide (vs.length ≤ 1000000) && vs.all (plainD n)) = true := h
      rw [Bool.and_eq_true, List.all_eq_true] at h
      obtain ⟨h1, h2⟩ := h
      have h1 := of_decide_eq_true h1
      have a1 : oIsi (.lst vs) (.tup [.ty "tuple", .ty "list"]) = .ok (.bl true, false) := rfl
      have z : zipVs [.lst vs, .lst vs] = some (vs.map fun v => .tup [v, v]) := by rw [← zip_same]; rfl
      simp [runF, d__law_is, a1]
      rw [lcM vs (fun v => .tup [v, v]) (fun _ => .bl true) (by simp [z]) (szl h1) (fun v hv => by simp [law_is_ok n v (h2 v hv)]) (by simp) (by simp)]
      have := oAll_f vs (fun _ => true)
      generalize (vs.map fun _ => Val.bl true) = L at *
      simp [this]
    | ty _ => simp [plainD] at h
    | glo _ => simp [plainD] at h
    | scr _ => simp [plainD] at h
    | rng _ _ => simp [plainD] at h
    | dK _ => simp [plainD] at h
    | dT _ => simp [plainD] at h
theorem plainD_tx (n : Nat) {l : List Nat} (h : small l = true) : plainD (n + 1) (tx l) = true := ok_enc (Tx.mk l h) (by decide)
theorem plainD_nats (n : Nat) (l : List Nat) (h : l.length ≤ 1000000) : plainD (n + 2) (.tup (l.map enc)) = true := by
  simp [plainD, h]
theorem plainD_cells (n : Nat) (l : List (Nat × Nat)) (h : l.length ≤ 1000000) : plainD (n + 3) (.tup (l.map enc)) = true := by
  simp [plainD, h]
end Sh

namespace Pc
open PySem PySem.Spec PyProof.Rows L2 PV Sh
open EV (enc)
open PH (szl)
abbrev Cell := Nat × Nat
abbrev Hide := List (List Nat)
abbrev Cut := Nat × Nat × Bool
abbrev Size := Nat × Nat
def hideV (h : Hide) : Val := .tup (h.map tx)
structure HdOk (h : Hide) : Prop where
  one : 1 ≤ h.length
  few : h.length ≤ 5
  wide : ∃ w, 1 ≤ w ∧ w ≤ 5 ∧ ∀ r ∈ h, r.length = w
  sign : ∀ r ∈ h, ∀ c ∈ r, c = 46 ∨ c = 35
def rowG (i : Nat) (row : List Nat) : List Cell := (row.zipIdx.filter fun q => q.1 == 46).map fun q => (i, q.2)
def good (h : Hide) : List Cell := h.zipIdx.flatMap fun p => rowG p.2 p.1
def cutV (c : Cut) : Val := .tup [.int c.1, .int c.2.1, .bl c.2.2]
def turnS (s : Size) (t : Bool) : Size := if t then (s.2, s.1) else s
def cov (s : Size) (c : Cut) : List Cell := (List.range (turnS s c.2.2).1).flatMap fun a => (List.range (turnS s c.2.2).2).map fun b => (c.1 + a, c.2.1 + b)
def ways (s : Size) : List Bool := if s.1 = s.2 then [false] else [false, true]
def plc (g : List Cell) (s : Size) : List Cut := g.flatMap fun c => ((ways s).filter fun t => (cov s (c.1, c.2, t)).all fun x => decide (x ∈ g)).map fun t => (c.1, c.2, t)
abbrev Lay := List Cut × List Cell
def layV (p : Lay) : Val := .tup [.tup (p.1.map cutV), .tup (p.2.map enc)]
def stepC (g : List Cell) (found : List Lay) (s : Size) : List Lay := found.flatMap fun p => ((plc g s).filter fun c => !(cov s c).any fun x => decide (x ∈ p.2)).map fun c => (p.1 ++ [c], p.2 ++ cov s c)
def cts (g : List Cell) (ss : List Size) : List Lay := ss.foldl (stepC g) [([], [])]

@[simp] theorem lit_dot : Val.str (Str.ofString ".") = tx [46] := by rw [str_tx]; congr 1
@[simp] theorem lit_hash : Val.str (Str.ofString "#") = tx [35] := by rw [str_tx]; congr 1
@[simp] theorem lit_both : Val.str (Str.ofString ".#") = tx [46, 35] := by rw [str_tx]; congr 1
theorem rowG_len (i : Nat) (row : List Nat) : (rowG i row).length ≤ row.length := by
  unfold rowG
  rw [List.length_map]
  exact Nat.le_trans (List.length_filter_le _ _) (by simp)
theorem zi_mem {α : Type} {l : List α} {p : α × Nat} (h : p ∈ l.zipIdx) : p.1 ∈ l := List.fst_mem_of_mem_zipIdx h
theorem flat_len {α β : Type} (f : α → List β) (k : Nat) : ∀ xs : List α, (∀ x ∈ xs, (f x).length ≤ k) → (xs.flatMap f).length ≤ xs.length * k
  | [], _ => by simp
  | x :: xs, h => by
    have h1 := h x (by simp)
    have h2 := flat_len f k xs fun y hy => h y (by simp [hy])
    rw [List.flatMap_cons, List.length_append, List.length_cons, Nat.succ_mul]; omega
theorem good_len {h : Hide} (H : HdOk h) : (good h).length ≤ 25 := by
  obtain ⟨w, w1, w2, hw⟩ := H.wide
  have := flat_len (fun p : List Nat × Nat => rowG p.2 p.1) 5 h.zipIdx fun p hp => Nat.le_trans (rowG_len _ _) (by rw [hw _ (zi_mem hp)]; exact w2)
  have f := H.few
  unfold good
  rw [List.length_zipIdx] at this
  omega
theorem row_sm {h : Hide} (H : HdOk h) {r : List Nat} (hr : r ∈ h) : r.length ≤ 5 := by
  obtain ⟨w, w1, w2, hw⟩ := H.wide
  rw [hw r hr]; exact w2
theorem sgn_small {c : Nat} (h : c = 46 ∨ c = 35) : small [c] = true := by rcases h with rfl | rfl <;> rfl
theorem good_enc (h : Hide) : (h.zipIdx.flatMap fun p => (rowG p.2 p.1).map enc) = (good h).map (enc (α := Cell)) := by unfold good; rw [List.map_flatMap]
theorem row_lc {h : Hide} (H : HdOk h) {row : List Nat} (hr : row ∈ h) (i : Nat) : (row.zipIdx.filter fun q => q.1 == 46).map (fun q => Val.tup [.int (i : Int), .int q.2]) = (rowG i row).map enc := by
  unfold rowG; rw [List.map_map]; rfl
theorem raw_good_ok {h : Hide} (H : HdOk h) : F_raw_good [hideV h] = .ok (.lst ((good h).map enc), false) := by
  have hb : ((good h).map enc).length ≤ 25 := by rw [List.length_map]; exact good_len H
  have e := good_enc h
  obtain ⟨⟨a, b⟩, k⟩ := for_ext (g := gT 2 (gsCons (gN 2) (gsCons (gN 3) gsNil))) (b := sExpr (dExt 1 (dLc [4, 5] (iOf enumV [(dVar 3)]) (gT 2 (gsCons (gN 4) (gsCons (gN 5) gsNil))) (dTB (dBin oEq (dVar 5) (dC (.str ".")))) (dTup [(dVar 2), (dVar 4)]))))
    (fun acc (tl : PV.Slot × PV.Slot) => [.frz (hideV h), .own (.lst acc), tl.1, tl.2, .emp, .emp]) 1000000 (fun p : List Nat × Nat => .tup [.int p.2, tx p.1]) (fun p => (rowG p.2 p.1).map enc) h.zipIdx
    (fun p hp acc tl hl => by
      have hr := zi_mem hp
      obtain ⟨row, i⟩ := p
      have h5 := row_sm H hr
      simp at hr h5
      simp
      rw [lcF row.zipIdx (fun q => .tup [.int q.2, tx [q.1]]) (fun q => .tup [.int i, .int q.2]) (fun q => q.1 == 46) (by simp [enumV_x row (szl (by omega))]) (szl (by simp; omega)) (fun q hq => by
        have hs := H.sign row hr q.1 (zi_mem hq)
        simp [oEq_x [q.1] [46] (sgn_small hs) rfl]
        rcases hs with z | z <;> simp [z]) (by simp) (by simp)]
      rw [row_lc H hr]
      have : acc.length + ((rowG i row).map enc).length ≤ sizeLine := szl (by simpa using hl)
      simp at this
      simp [this]) [] (.emp, .emp) (by rw [e]; simp at hb ⊢; omega)
  rw [e] at k
  simp [hideV] at k
  simp [F_raw_good, runF, d_raw_good, hideV, enumV_t, List.zipIdx_map, Function.comp_def]
  rw [k]
  simp
theorem law_cells_ok {h : Hide} (H : HdOk h) : F__law_cells [hideV h] = .ok (.lst ((good h).map enc), false) := by
  have hb : ((good h).map enc).length ≤ 25 := by rw [List.length_map]; exact good_len H
  have e := good_enc h
  obtain ⟨⟨a, b⟩, k⟩ := for_ext (g := gT 2 (gsCons (gN 2) (gsCons (gN 3) gsNil))) (b := (sOwn (dBin oAdd (dVar 1) (dLc [4, 5] (iOf enumV [(dVar 3)]) (gT 2 (gsCons (gN 4) (gsCons (gN 5) gsNil))) (dTB (dBin oEq (dVar 5) (dC (.str ".")))) (dTup [(dVar 2), (dVar 4)]))) 1))
    (fun acc (tl : PV.Slot × PV.Slot) => [.frz (hideV h), .own (.lst acc), tl.1, tl.2, .emp, .emp]) 1000000 (fun p : List Nat × Nat => .tup [.int p.2, tx p.1]) (fun p => (rowG p.2 p.1).map enc) h.zipIdx
    (fun p hp acc tl hl => by
      have hr := zi_mem hp
      obtain ⟨row, i⟩ := p
      have h5 := row_sm H hr
      simp at hr h5
      simp
      rw [lcF row.zipIdx (fun q => .tup [.int q.2, tx [q.1]]) (fun q => .tup [.int i, .int q.2]) (fun q => q.1 == 46) (by simp [enumV_x row (szl (by omega))]) (szl (by simp; omega)) (fun q hq => by
        have hs := H.sign row hr q.1 (zi_mem hq)
        simp [oEq_x [q.1] [46] (sgn_small hs) rfl]
        rcases hs with z | z <;> simp [z]) (by simp) (by simp)]
      rw [row_lc H hr]
      have : acc.length + ((rowG i row).map enc).length ≤ sizeLine := szl (by simpa using hl)
      simp at this
      simp [oAdd_ll, this]) [] (.emp, .emp) (by rw [e]; simp at hb ⊢; omega)
  rw [e] at k
  simp [hideV] at k
  simp [F__law_cells, runF, d__law_cells, hideV, enumV_t, List.zipIdx_map, Function.comp_def]
  rw [k]
  simp
/-! ### the cells of a cut -/
theorem cov_len {s : Size} (h1 : s.1 ≤ 10) (h2 : s.2 ≤ 10) (c : Cut) : (cov s c).length ≤ 100 := by
  have : (turnS s c.2.2).1 ≤ 10 ∧ (turnS s c.2.2).2 ≤ 10 := by unfold turnS; split <;> exact ⟨by assumption, by assumption⟩
  have q := flat_len (fun a => (List.range (turnS s c.2.2).2).map fun b => ((c.1 + a, c.2.1 + b) : Cell)) 10 (List.range (turnS s c.2.2).1) fun a _ => by simp; omega
  rw [List.length_range] at q
  unfold cov
  omega
theorem cov_enc (s : Size) (c : Cut) : ((List.range (turnS s c.2.2).1).flatMap fun a => ((List.range (turnS s c.2.2).2).map fun b => ((c.1 + a, c.2.1 + b) : Cell)).map enc) = (cov s c).map enc := by unfold cov; rw [List.map_flatMap]
theorem cells_of_cut_ok {s : Size} (h1 : s.1 ≤ 10) (h2 : s.2 ≤ 10) (c : Cut) : F_cells_of_cut [enc s, cutV c] = .ok (.lst ((cov s c).map enc), false) := by
  obtain ⟨r, q, t⟩ := c
  have hb := cov_len h1 h2 (r, q, t)
  have e := cov_enc s (r, q, t)
  have hd : (turnS s t).1 ≤ 10 ∧ (turnS s t).2 ≤ 10 := by unfold turnS; split <;> exact ⟨by assumption, by assumption⟩
  have et : (if t = true then Val.tup [.int (s.2 : Int), .int (s.1 : Int)] else .tup [.int (s.1 : Int), .int (s.2 : Int)]) = .tup [.int ((turnS s t).1 : Int), .int ((turnS s t).2 : Int)] := by
    unfold turnS; cases t <;> rfl
  simp only at e hb
  generalize turnS s t = d at *
  obtain ⟨x, y⟩ := d
  simp at hd
  have r1 := range_1 x (by omega)
  have r2 := range_1 y (by omega)
  obtain ⟨a, k⟩ := for_ext (g := gN 3) (b := (sExpr (dExt 2 (dLc [9] (iRng [(dVar 8)]) (gN 9) dYes (dTup [(dBin oAdd (dVar 4) (dVar 3)), (dBin oAdd (dVar 5) (dVar 9))])))))
    (fun acc (tl : PV.Slot) => [.frz (enc s), .frz (cutV (r, q, t)), .own (.lst acc), tl, .frz (.int r), .frz (.int q), .frz (.bl t), .frz (.int x), .frz (.int y), .emp]) 1000000 enc (fun a : Nat => ((List.range y).map fun b => ((r + a, q + b) : Cell)).map enc) (List.range x)
    (fun a ha acc tl hl => by
      simp at hl
      simp
      rw [lcM (List.range y) enc (fun b : Nat => .tup [.int (r + a), .int (q + b)]) (by simp [r2]) (szl (by simp; omega)) (fun b hb => by simp) (by simp) (by simp)]
      have : acc.length + y ≤ sizeLine := szl (by omega)
      simp [this, Function.comp_def]) [] .emp (by rw [e]; simp; omega)
  rw [e] at k
  simp [cutV] at k
  cases t with
  | false =>
    simp at et
    simp [et] at k
    simp [F_cells_of_cut, runF, d_cells_of_cut, cutV, et, r1]
    rw [k]; simp
  | true =>
    simp at et
    simp [et] at k
    simp [F_cells_of_cut, runF, d_cells_of_cut, cutV, et, r1]
    rw [k]; simp
theorem law_covered_ok {s : Size} (h1 : s.1 ≤ 10) (h2 : s.2 ≤ 10) (c : Cut) : F__law_covered [cutV c, enc s] = .ok (.lst ((cov s c).map enc), false) := by
  obtain ⟨r, q, t⟩ := c
  have hb := cov_len h1 h2 (r, q, t)
  have e := cov_enc s (r, q, t)
  have hd : (turnS s t).1 ≤ 10 ∧ (turnS s t).2 ≤ 10 := by unfold turnS; split <;> exact ⟨by assumption, by assumption⟩
  have et : (if t = true then Val.tup [.int (s.2 : Int), .int (s.1 : Int)] else .tup [.int (s.1 : Int), .int (s.2 : Int)]) = .tup [.int ((turnS s t).1 : Int), .int ((turnS s t).2 : Int)] := by
    unfold turnS; cases t <;> rfl
  simp only at e hb
  generalize turnS s t = d at *
  obtain ⟨x, y⟩ := d
  simp at hd
  have r1 := range_1 x (by omega)
  have r2 := range_1 y (by omega)
  obtain ⟨a, k⟩ := for_ext (g := gN 3) (b := (sOwn (dBin oAdd (dVar 2) (dLc [9] (iRng [(dVar 8)]) (gN 9) dYes (dTup [(dBin oAdd (dVar 4) (dVar 3)), (dBin oAdd (dVar 5) (dVar 9))]))) 2))
    (fun acc (tl : PV.Slot) => [.frz (cutV (r, q, t)), .frz (enc s), .own (.lst acc), tl, .frz (.int r), .frz (.int q), .frz (.bl t), .frz (.int x), .frz (.int y), .emp]) 1000000 enc (fun a : Nat => ((List.range y).map fun b => ((r + a, q + b) : Cell)).map enc) (List.range x)
    (fun a ha acc tl hl => by
      simp at hl
      simp
      rw [lcM (List.range y) enc (fun b : Nat => .tup [.int (r + a), .int (q + b)]) (by simp [r2]) (szl (by simp; omega)) (fun b hb => by simp) (by simp) (by simp)]
      have : acc.length + y ≤ sizeLine := szl (by omega)
      simp [oAdd_ll, this, Function.comp_def]) [] .emp (by rw [e]; simp; omega)
  rw [e] at k
  simp [cutV] at k
  cases t with
  | false =>
    simp at et
    simp [et] at k
    simp [F__law_covered, runF, d__law_covered, cutV, et, r1]
    rw [k]; simp
  | true =>
    simp at et
    simp [et] at k
    simp [F__law_covered, runF, d__law_covered, cutV, et, r1]
    rw [k]; simp
end Pc

namespace Pc
open PySem PySem.Spec PyProof.Rows L2 PV Sh
open EV (enc)
open PH (szl)
theorem in_g (c : Cell) (g : List Cell) : oIn (.tup [.int (c.1 : Int), .int (c.2 : Int)]) (.lst (g.map enc)) = .ok (.bl (decide (c ∈ g)), false) := by
  have := oIn_l c g (by decide)
  simp only [enc_pair, enc_nat] at this
  rw [this]; congr
theorem in_u (c : Cell) (g : List Cell) : oIn (.tup [.int (c.1 : Int), .int (c.2 : Int)]) (.tup (g.map enc)) = .ok (.bl (decide (c ∈ g)), false) := by
  have := oIn_t c g (by decide)
  simp only [enc_pair, enc_nat] at this
  rw [this]; congr
structure SzOk (s : Size) : Prop where
  h1 : 1 ≤ s.1 ∧ s.1 ≤ 4
  h2 : 1 ≤ s.2 ∧ s.2 ≤ 4
theorem plc_len (g : List Cell) (s : Size) : (plc g s).length ≤ g.length * 2 := by
  refine flat_len _ 2 g fun c _ => ?_
  rw [List.length_map]
  refine Nat.le_trans (List.length_filter_le _ _) ?_
  unfold ways; split <;> simp
theorem plc_enc (g : List Cell) (s : Size) : (g.flatMap fun c => (((ways s).filter fun t => (cov s (c.1, c.2, t)).all fun x => decide (x ∈ g)).map fun t => cutV (c.1, c.2, t))) = (plc g s).map cutV := by
  unfold plc; rw [List.map_flatMap]
  congr 1; funext c; rw [List.map_map]; rfl
theorem ways_if (s : Size) (env : EnvD) : (if (s.1 : Int) = s.2 then (Res.ok (Val.tup [.bl false], false, env) : Res ER) else .ok (.tup [.bl false, .bl true], false, env)) = .ok (.tup ((ways s).map .bl), false, env) := by
  unfold ways
  by_cases c : s.1 = s.2
  · rw [if_pos (by omega), if_pos c]; rfl
  · rw [if_neg (by omega), if_neg c]; rfl
theorem ways_len (s : Size) : (ways s).length ≤ 2 := by unfold ways; split <;> simp
theorem raw_places_ok {h : Hide} (H : HdOk h) {s : Size} (S : SzOk s) : F_raw_places [hideV h, enc s] = .ok (.lst ((plc (good h) s).map cutV), false) := by
  have hg := good_len H
  have hg2 := plc_len (good h) s
  have k0 := raw_good_ok H
  have kc := fun c => cells_of_cut_ok (s := s) (by have := S.h1; omega) (by have := S.h2; omega) c
  have kl := fun c => cov_len (s := s) (by have := S.h1; omega) (by have := S.h2; omega) c
  have e := plc_enc (good h) s
  generalize plc (good h) s = pl at *
  generalize good h = g at *
  obtain ⟨⟨a, b, c, d⟩, k⟩ := for_ext (g := (gT 2 (gsCons (gN 4) (gsCons (gN 5) gsNil)))) (b := (sFor (iVal (dIf (dTB (dBin oNe (dIxS 1 (dC (.int 0))) (dIxS 1 (dC (.int 1))))) (dTup [(dC (.bl false)), (dC (.bl true))]) (dTup [(dC (.bl false))]))) (gN 6) (sSeq (sOwn (dTup [(dVar 4), (dVar 5), (dVar 6)]) 7)
    (sIf (dTru (dCB (on1 oAll) [(dLc [8] (iVal (dCB F_cells_of_cut [(dVar 1), (dVar 7)])) (gN 8) dYes (dRS oIn (dVar 8) 2))])) (sExpr (dApp 3 (dVar 7))) sNil))))
    (fun acc (tl : PV.Slot × PV.Slot × PV.Slot × PV.Slot) => [.frz (hideV h), .frz (enc s), .frz (.lst (g.map enc)), .own (.lst acc), tl.1, tl.2.1, tl.2.2.1, tl.2.2.2, .emp]) 1000000 enc (fun c => ((ways s).filter fun t => (cov s (c.1, c.2, t)).all fun x => decide (x ∈ g)).map fun t => cutV (c.1, c.2, t)) g
    (fun c hc acc tl hl => by
      obtain ⟨⟨a, b⟩, k⟩ := for_app (g := gN 6) (b := (sSeq (sOwn (dTup [(dVar 4), (dVar 5), (dVar 6)]) 7)
        (sIf (dTru (dCB (on1 oAll) [(dLc [8] (iVal (dCB F_cells_of_cut [(dVar 1), (dVar 7)])) (gN 8) dYes (dRS oIn (dVar 8) 2))])) (sExpr (dApp 3 (dVar 7))) sNil)))
        (fun acc (tl : PV.Slot × PV.Slot) => [.frz (hideV h), .frz (enc s), .frz (.lst (g.map enc)), .own (.lst acc), .frz (.int c.1), .frz (.int c.2), tl.1, tl.2, .emp]) Val.bl (fun t => (cov s (c.1, c.2, t)).all fun x => decide (x ∈ g)) (fun t => cutV (c.1, c.2, t)) (ways s)
        (fun t ht acc tl hl => by
          have k1 := kc (c.1, c.2, t)
          have k2 := kl (c.1, c.2, t)
          simp [cutV] at k1
          generalize cov s (c.1, c.2, t) = cv at *
          simp
          rw [lcM cv enc (fun x : Cell => .bl (decide (x ∈ g))) (by simp [k1]) (szl (by omega)) (fun x hx => by simp [in_g]) (by simp) (by simp)]
          simp
          cases hh : cv.all (fun x => decide (x ∈ g)) <;> simp [hh, hl, cutV]) acc (tl.2.2.1, tl.2.2.2) (szl2 (by have := ways_len s; simp at hl; omega))
      simp [ways_if]
      simp at k
      rw [k]
      exact ⟨_, _, _, _, rfl⟩) [] (.emp, .emp, .emp, .emp) (by rw [e]; simp; omega)
  rw [e] at k
  simp at k
  simp [F_raw_places, runF, d_raw_places, k0]
  rw [k]
  simp
theorem law_places_ok {h : Hide} (H : HdOk h) {s : Size} (S : SzOk s) : F__law_places [hideV h, enc s] = .ok (.lst ((plc (good h) s).map cutV), false) := by
  have hg := good_len H
  have hg2 := plc_len (good h) s
  have k0 := law_cells_ok H
  have kc := fun c => law_covered_ok (s := s) (by have := S.h1; omega) (by have := S.h2; omega) c
  have kl := fun c => cov_len (s := s) (by have := S.h1; omega) (by have := S.h2; omega) c
  have e := plc_enc (good h) s
  generalize plc (good h) s = pl at *
  generalize good h = g at *
  obtain ⟨⟨a, b, c, d⟩, k⟩ := for_ext (g := (gT 2 (gsCons (gN 4) (gsCons (gN 5) gsNil)))) (b := (sFor (iVal (dTup [(dC (.bl false)), (dC (.bl true))])) (gN 6) (sIf (dOrT (dNotT (dTruS 6)) (dTB (dBin oNe (dIxS 1 (dC (.int 0))) (dIxS 1 (dC (.int 1)))))) (sSeq (sOwn (dTup [(dVar 4), (dVar 5), (dVar 6)]) 7)
    (sOwn (dBin oAdd (dVar 3) (dIf (dTru (dCB (on1 oAll) [(dLc [8] (iVal (dCB F__law_covered [(dVar 7), (dVar 1)])) (gN 8) dYes (dRS oIn (dVar 8) 2))])) (dLst [(dVar 7)]) (dLst []))) 3)) sNil)))
    (fun acc (tl : PV.Slot × PV.Slot × PV.Slot × PV.Slot) => [.frz (hideV h), .frz (enc s), .frz (.lst (g.map enc)), .own (.lst acc), tl.1, tl.2.1, tl.2.2.1, tl.2.2.2, .emp]) 1000000 enc (fun c => ((ways s).filter fun t => (cov s (c.1, c.2, t)).all fun x => decide (x ∈ g)).map fun t => cutV (c.1, c.2, t)) g
    (fun c hc acc tl hl => by
      have one : ∀ (t : Bool) (acc : List Val) (s6 s7 : PV.Slot), acc.length ≤ 1000001 → ∃ t7, (sIf (dOrT (dNotT (dTruS 6)) (dTB (dBin oNe (dIxS 1 (dC (.int 0))) (dIxS 1 (dC (.int 1)))))) (sSeq (sOwn (dTup [(dVar 4), (dVar 5), (dVar 6)]) 7)
    (sOwn (dBin oAdd (dVar 3) (dIf (dTru (dCB (on1 oAll) [(dLc [8] (iVal (dCB F__law_covered [(dVar 7), (dVar 1)])) (gN 8) dYes (dRS oIn (dVar 8) 2))])) (dLst [(dVar 7)]) (dLst []))) 3)) sNil) [.frz (hideV h), .frz (enc s), .frz (.lst (g.map enc)), .own (.lst acc), .frz (.int c.1), .frz (.int c.2), .frz (.bl t), s7, .emp] = .ok (.nx [.frz (hideV h), .frz (enc s), .frz (.lst (g.map enc)), .own (.lst (acc ++ (if (!t || !decide (s.1 = s.2)) && (cov s (c.1, c.2, t)).all (fun x => decide (x ∈ g)) then [cutV (c.1, c.2, t)] else []))), .frz (.int c.1), .frz (.int c.2), .frz (.bl t), t7, .emp]) := by
        intro t acc s6 s7 hl
        have k1 := kc (c.1, c.2, t)
        have k2 := kl (c.1, c.2, t)
        simp [cutV] at k1
        generalize cov s (c.1, c.2, t) = cv at *
        have l1 := szl2 (n := acc.length + 1) (by omega)
        have l2 := szl2 (n := acc.length) (by omega)
        by_cases cc : t = true ∧ s.1 = s.2
        · obtain ⟨rfl, c2⟩ := cc
          refine ⟨s7, ?_⟩
          simp [c2]
        · refine ⟨.frz (cutV (c.1, c.2, t)), ?_⟩
          have c3 : (!t || !decide ((s.1 : Int) = s.2)) = true := by
            cases t <;> simp at cc ⊢; omega
          have c4 : (!t || !decide (s.1 = s.2)) = true := by
            cases t <;> simp at cc ⊢; omega
          have step : dLc [8] (iVal (dCB F__law_covered [(dVar 7), (dVar 1)])) (gN 8) dYes (dRS oIn (dVar 8) 2) [.frz (hideV h), .frz (enc s), .frz (.lst (g.map enc)), .frz (.lst acc), .frz (.int c.1), .frz (.int c.2), .frz (.bl t), .frz (cutV (c.1, c.2, t)), .emp] = .ok (.lst (cv.map fun x => .bl (decide (x ∈ g))), true, [.frz (hideV h), .frz (enc s), .frz (.lst (g.map enc)), .frz (.lst acc), .frz (.int c.1), .frz (.int c.2), .frz (.bl t), .frz (cutV (c.1, c.2, t)), .emp]) := by
            rw [lcM cv enc (fun x : Cell => .bl (decide (x ∈ g))) (by simp [cutV, k1]) (szl (by omega)) (fun x hx => by simp [in_g]) (by simp) (by simp)]
          simp [cutV] at step
          rw [c4]
          cases t with
          | false =>
            simp [step]
            cases hh : cv.all (fun x => decide (x ∈ g)) <;> simp at hh <;> simp [hh, oAdd_ll, l1, l2, cutV]
          | true =>
            simp at c3
            simp [step, c3]
            cases hh : cv.all (fun x => decide (x ∈ g)) <;> simp at hh <;> simp [hh, oAdd_ll, l1, l2, cutV]
      obtain ⟨t7, k1⟩ := one false acc tl.2.2.1 tl.2.2.2 (by omega)
      obtain ⟨t8, k2⟩ := one true (acc ++ (if (!false || !decide (s.1 = s.2)) && (cov s (c.1, c.2, false)).all (fun x => decide (x ∈ g)) then [cutV (c.1, c.2, false)] else [])) (.frz (.bl false)) t7 (by
        rw [List.length_append]
        have : (if (!false || !decide (s.1 = s.2)) && (cov s (c.1, c.2, false)).all (fun x => decide (x ∈ g)) then [cutV (c.1, c.2, false)] else []).length ≤ 1 := by split <;> simp
        omega)
      have ew : ((ways s).filter fun t => (cov s (c.1, c.2, t)).all fun x => decide (x ∈ g)).map (fun t => cutV (c.1, c.2, t)) = (if (!false || !decide (s.1 = s.2)) && (cov s (c.1, c.2, false)).all (fun x => decide (x ∈ g)) then [cutV (c.1, c.2, false)] else []) ++ (if (!true || !decide (s.1 = s.2)) && (cov s (c.1, c.2, true)).all (fun x => decide (x ∈ g)) then [cutV (c.1, c.2, true)] else []) := by
        unfold ways
        cases h1 : (cov s (c.1, c.2, false)).all (fun x => decide (x ∈ g)) <;> cases h2 : (cov s (c.1, c.2, true)).all (fun x => decide (x ∈ g)) <;> by_cases h3 : s.1 = s.2 <;> simp [h3, List.filter, h1, h2]
      rw [ew, ← List.append_assoc]
      generalize (if (!false || !decide (s.1 = s.2)) && (cov s (c.1, c.2, false)).all (fun x => decide (x ∈ g)) then [cutV (c.1, c.2, false)] else []) = A at *
      generalize (if (!true || !decide (s.1 = s.2)) && (cov s (c.1, c.2, true)).all (fun x => decide (x ∈ g)) then [cutV (c.1, c.2, true)] else []) = B at *
      generalize hb : (sIf (dOrT (dNotT (dTruS 6)) (dTB (dBin oNe (dIxS 1 (dC (.int 0))) (dIxS 1 (dC (.int 1)))))) (sSeq (sOwn (dTup [(dVar 4), (dVar 5), (dVar 6)]) 7)
    (sOwn (dBin oAdd (dVar 3) (dIf (dTru (dCB (on1 oAll) [(dLc [8] (iVal (dCB F__law_covered [(dVar 7), (dVar 1)])) (gN 8) dYes (dRS oIn (dVar 8) 2))])) (dLst [(dVar 7)]) (dLst []))) 3)) sNil) = body at *
      simp at k1 k2
      simp [forLoop, k1, k2]) [] (.emp, .emp, .emp, .emp) (by rw [e]; simp; omega)
  rw [e] at k
  simp at k
  simp [F__law_places, runF, d__law_places, k0]
  rw [k]
  simp
end Pc

namespace Pc
open PySem PySem.Spec PyProof.Rows L2 PV Sh
open EV (enc)
open PH (szl)
def nextL (s : Size) (pl : List Cut) (p : Lay) : List Lay := (pl.filter fun c => !(cov s c).any fun x => decide (x ∈ p.2)).map fun c => (p.1 ++ [c], p.2 ++ cov s c)
theorem stepC_eq (g : List Cell) (found : List Lay) (s : Size) : stepC g found s = found.flatMap (nextL s (plc g s)) := rfl
theorem nextL_len (s : Size) (pl : List Cut) (p : Lay) : (nextL s pl p).length ≤ pl.length := by
  unfold nextL; rw [List.length_map]; exact List.length_filter_le _ _
theorem cts_snoc (g : List Cell) (ss : List Size) (s : Size) : cts g (ss ++ [s]) = stepC g (cts g ss) s := by
  unfold cts; rw [List.foldl_append]; rfl
theorem stepC_len (g : List Cell) (found : List Lay) (s : Size) : (stepC g found s).length ≤ found.length * (g.length * 2) := by
  refine flat_len _ _ found fun p _ => Nat.le_trans (nextL_len _ _ _) (plc_len g s)
theorem cts_take_len {g : List Cell} (hg : g.length ≤ 25) {ss : List Size} : ∀ n, n ≤ 3 → (cts g (ss.take n)).length ≤ 50 ^ n := by
  intro n
  induction n with
  | zero => intro _; simp [cts]
  | succ n ih =>
    intro hn
    have ih := ih (by omega)
    by_cases h : n < ss.length
    · rw [List.take_add_one, List.getElem?_eq_getElem h]
      simp only [Option.toList_some]
      rw [cts_snoc]
      refine Nat.le_trans (stepC_len _ _ _) ?_
      rw [Nat.pow_succ]
      exact Nat.mul_le_mul ih (by omega)
    · rw [List.take_of_length_le (by omega)] at ih ⊢
      refine Nat.le_trans ih ?_
      rw [Nat.pow_succ]; omega
theorem lay_bnd {g : List Cell} : ∀ (n : Nat) (ss : List Size), ss.length = n → (∀ s ∈ ss, SzOk s) → ∀ p ∈ cts g ss, p.1.length = ss.length ∧ p.2.length ≤ 100 * ss.length
  | 0, ss, h, _, p, hp => by
    have : ss = [] := List.length_eq_zero_iff.mp h
    subst this
    simp [cts] at hp; subst hp; simp
  | n + 1, ss, h, hs, p, hp => by
    have hne : ss ≠ [] := by intro z; subst z; simp at h
    obtain ⟨ts, s, rfl⟩ : ∃ ts s, ss = ts ++ [s] := ⟨ss.dropLast, ss.getLast hne, (List.dropLast_concat_getLast hne).symm⟩
    rw [cts_snoc, stepC_eq, List.mem_flatMap] at hp
    obtain ⟨q, hq, hp⟩ := hp
    unfold nextL at hp
    obtain ⟨c, hc, rfl⟩ := List.mem_map.mp hp
    have ih := lay_bnd n ts (by simpa using h) (fun s hs' => hs s (by simp [hs'])) q hq
    have hs' := hs s (by simp)
    have := cov_len (s := s) (by have := hs'.h1; omega) (by have := hs'.h2; omega) c
    simp; omega
def pcT (s : Size) (c : Cut) : Val := .tup [cutV c, .tup ((cov s c).map enc)]
def pcL (s : Size) (c : Cut) : Val := .tup [cutV c, .lst ((cov s c).map enc)]
def rowsB : SD := (sFor (iVal (dVar 4)) (gT 2 (gsCons (gN 8) (gsCons (gN 9) gsNil))) (sIf (dNotT (dTru (dCB (on1 oAny) [(dLc [10] (iVal (dVar 9)) (gN 10) dYes (dRS oIn (dVar 10) 7))]))) (sExpr (dApp 5 (dTup [(dBin oAdd (dVar 6) (dTup [(dVar 8)])), (dBin oAdd (dVar 7) (dVar 9))]))) sNil))
theorem rowsB_ok {s : Size} (S : SzOk s) (pl : List Cut) (hpl : pl.length ≤ 50) (p : Lay) (hp : p.1.length ≤ 3 ∧ p.2.length ≤ 300) (acc : List Val) (ha : acc.length ≤ 1000000) (v0 v1 v3 : Val) (st : List Val) (b4 : Bool) (s8 : Option Val) (s9 : PV.Slot) :
    ∃ t8 t9, rowsB [.frz v0, .frz v1, .own (.lst st), .frz v3, ow b4 (.lst (pl.map (pcT s))), .own (.lst acc), .frz (.tup (p.1.map cutV)), .frz (.tup (p.2.map enc)), sl s8, s9, .emp] = .ok (.nx [.frz v0, .frz v1, .own (.lst st), .frz v3, .frz (.lst (pl.map (pcT s))), .own (.lst (acc ++ (nextL s pl p).map layV)), .frz (.tup (p.1.map cutV)), .frz (.tup (p.2.map enc)), sl t8, t9, .emp]) := by
  obtain ⟨⟨a, b⟩, k⟩ := for_app (g := (gT 2 (gsCons (gN 8) (gsCons (gN 9) gsNil)))) (b := (sIf (dNotT (dTru (dCB (on1 oAny) [(dLc [10] (iVal (dVar 9)) (gN 10) dYes (dRS oIn (dVar 10) 7))]))) (sExpr (dApp 5 (dTup [(dBin oAdd (dVar 6) (dTup [(dVar 8)])), (dBin oAdd (dVar 7) (dVar 9))]))) sNil))
    (fun acc (tl : Option Val × PV.Slot) => [.frz v0, .frz v1, .own (.lst st), .frz v3, .frz (.lst (pl.map (pcT s))), .own (.lst acc), .frz (.tup (p.1.map cutV)), .frz (.tup (p.2.map enc)), sl tl.1, tl.2, .emp]) (pcT s) (fun c => !(cov s c).any fun x => decide (x ∈ p.2)) (fun c => layV (p.1 ++ [c], p.2 ++ cov s c)) pl
    (fun c hc acc tl hl => by
      have k2 := cov_len (s := s) (by have := S.h1; omega) (by have := S.h2; omega) c
      unfold layV pcT
      generalize cov s c = cv at *
      have l1 := szl2 (n := p.1.length + 1) (by omega)
      have l2 := szl2 (n := p.2.length + cv.length) (by omega)
      simp
      rw [lcM cv enc (fun x : Cell => .bl (decide (x ∈ p.2))) (by simp) (szl (by omega)) (fun x hx => by simp [in_u]) (by simp) (by simp)]
      simp
      cases hh : cv.any (fun x => decide (x ∈ p.2)) <;> simp [hh, hl, oAdd_tt, l1, l2]) acc (s8, s9) (szl2 (by omega))
  refine ⟨a, b, ?_⟩
  unfold rowsB
  simp at k
  cases b4 <;> simp [k, nextL, Function.comp_def]
def lawsB : SD := (sFor (iVal (dVar 5)) (gT 2 (gsCons (gN 8) (gsCons (gN 9) gsNil))) (sIf (dNotT (dTru (dCB (on1 oAny) [(dLc [10] (iVal (dVar 9)) (gN 10) dYes (dRS oIn (dVar 10) 7))]))) (sExpr (dApp 4 (dTup [(dBin oAdd (dVar 6) (dTup [(dVar 8)])), (dBin oAdd (dVar 7) (dCBS oTuple 9))]))) sNil))
theorem lawsB_ok {s : Size} (S : SzOk s) (pl : List Cut) (hpl : pl.length ≤ 50) (p : Lay) (hp : p.1.length ≤ 3 ∧ p.2.length ≤ 300) (acc : List Val) (ha : acc.length ≤ 1000000) (v0 v1 v3 : Val) (x2 : PV.Slot) (b4 : Bool) (s8 : Option Val) (s9 : PV.Slot) :
    ∃ t8 t9, lawsB [.frz v0, .frz v1, x2, .frz v3, .own (.lst acc), ow b4 (.lst (pl.map (pcL s))), .frz (.tup (p.1.map cutV)), .frz (.tup (p.2.map enc)), sl s8, s9, .emp] = .ok (.nx [.frz v0, .frz v1, x2, .frz v3, .own (.lst (acc ++ (nextL s pl p).map layV)), .frz (.lst (pl.map (pcL s))), .frz (.tup (p.1.map cutV)), .frz (.tup (p.2.map enc)), sl t8, t9, .emp]) := by
  obtain ⟨⟨a, b⟩, k⟩ := for_app (g := (gT 2 (gsCons (gN 8) (gsCons (gN 9) gsNil)))) (b := (sIf (dNotT (dTru (dCB (on1 oAny) [(dLc [10] (iVal (dVar 9)) (gN 10) dYes (dRS oIn (dVar 10) 7))]))) (sExpr (dApp 4 (dTup [(dBin oAdd (dVar 6) (dTup [(dVar 8)])), (dBin oAdd (dVar 7) (dCBS oTuple 9))]))) sNil))
    (fun acc (tl : Option Val × PV.Slot) => [.frz v0, .frz v1, x2, .frz v3, .own (.lst acc), .frz (.lst (pl.map (pcL s))), .frz (.tup (p.1.map cutV)), .frz (.tup (p.2.map enc)), sl tl.1, tl.2, .emp]) (pcL s) (fun c => !(cov s c).any fun x => decide (x ∈ p.2)) (fun c => layV (p.1 ++ [c], p.2 ++ cov s c)) pl
    (fun c hc acc tl hl => by
      have k2 := cov_len (s := s) (by have := S.h1; omega) (by have := S.h2; omega) c
      unfold layV pcL
      generalize cov s c = cv at *
      have l1 := szl2 (n := p.1.length + 1) (by omega)
      have l2 := szl2 (n := p.2.length + cv.length) (by omega)
      simp
      rw [lcM cv enc (fun x : Cell => .bl (decide (x ∈ p.2))) (by simp) (szl (by omega)) (fun x hx => by simp [in_u]) (by simp) (by simp)]
      simp
      cases hh : cv.any (fun x => decide (x ∈ p.2)) <;> simp [hh, hl, oAdd_tt, l1, l2]) acc (s8, s9) (szl2 (by omega))
  refine ⟨a, b, ?_⟩
  unfold lawsB
  simp at k
  cases b4 <;> simp [k, nextL, Function.comp_def]
/-- the sizes, a tuple or a list -/
structure SzsOk (ss : List Size) : Prop where
  few : ss.length ≤ 3
  all : ∀ s ∈ ss, SzOk s
def stg (g : List Cell) (ss : List Size) (i : Nat) : List Val := (List.range (i + 1)).map fun j => .lst ((cts g (ss.take j)).map layV)
theorem stg_last (g : List Cell) (ss : List Size) (i : Nat) : oIx (.lst (stg g ss i)) (.int (-1)) = .ok (.lst ((cts g (ss.take i)).map layV), false) := oIx_l _ _ (atI_last' (by unfold stg; rw [List.range_succ]; simp))
theorem stg_succ (g : List Cell) (ss : List Size) (i : Nat) : stg g ss (i + 1) = stg g ss i ++ [.lst ((cts g (ss.take (i + 1))).map layV)] := by
  unfold stg; rw [List.range_succ (n := i + 1), List.map_append]; rfl
theorem rowsC_ok {s : Size} (S : SzOk s) (pl : List Cut) (hpl : pl.length ≤ 50) (F : List Lay) (hF : F.length ≤ 2500) (hb : ∀ p ∈ F, p.1.length ≤ 3 ∧ p.2.length ≤ 300) (v0 v1 v3 : Val) (st : List Val) (b4 : Bool) (s6 s7 s9 : PV.Slot) (s8 : Option Val) :
    ∃ c4 t6 t7 t8 t9, forLoop (gT 2 (gsCons (gN 6) (gsCons (gN 7) gsNil))) rowsB (F.map layV) [.frz v0, .frz v1, .own (.lst st), .frz v3, ow b4 (.lst (pl.map (pcT s))), .own (.lst []), s6, s7, sl s8, s9, .emp] = .ok (.nx [.frz v0, .frz v1, .own (.lst st), .frz v3, ow c4 (.lst (pl.map (pcT s))), .own (.lst ((F.flatMap (nextL s pl)).map layV)), t6, t7, sl t8, t9, .emp]) := by
  have hl := flat_len (nextL s pl) 50 F fun p _ => Nat.le_trans (nextL_len _ _ _) hpl
  obtain ⟨⟨z, a, b, c, d⟩, k⟩ := for_ext (g := gT 2 (gsCons (gN 6) (gsCons (gN 7) gsNil))) (b := rowsB) (fun acc (tl : Bool × PV.Slot × PV.Slot × Option Val × PV.Slot) => [.frz v0, .frz v1, .own (.lst st), .frz v3, ow tl.1 (.lst (pl.map (pcT s))), .own (.lst acc), tl.2.1, tl.2.2.1, sl tl.2.2.2.1, tl.2.2.2.2, .emp]) 1000000 layV (fun p => (nextL s pl p).map layV) F
    (fun p hp acc tl hl => by
      obtain ⟨t8, t9, k⟩ := rowsB_ok S pl hpl p (hb p hp) acc (by omega) v0 v1 v3 st tl.1 tl.2.2.2.1 tl.2.2.2.2
      simp [layV]
      rw [k]
      simp) [] (b4, s6, s7, s8, s9) (by rw [← List.map_flatMap, List.length_map, List.length_nil]; omega)
  rw [← List.map_flatMap] at k
  exact ⟨z, a, b, c, d, k⟩
theorem lawsC_ok {s : Size} (S : SzOk s) (pl : List Cut) (hpl : pl.length ≤ 50) (F : List Lay) (hF : F.length ≤ 2500) (hb : ∀ p ∈ F, p.1.length ≤ 3 ∧ p.2.length ≤ 300) (v0 v1 v3 : Val) (b4 : Bool) (x2 s6 s7 s9 : PV.Slot) (s8 : Option Val) :
    ∃ c4 t6 t7 t8 t9, forLoop (gT 2 (gsCons (gN 6) (gsCons (gN 7) gsNil))) lawsB (F.map layV) [.frz v0, .frz v1, x2, .frz v3, .own (.lst []), ow b4 (.lst (pl.map (pcL s))), s6, s7, sl s8, s9, .emp] = .ok (.nx [.frz v0, .frz v1, x2, .frz v3, .own (.lst ((F.flatMap (nextL s pl)).map layV)), ow c4 (.lst (pl.map (pcL s))), t6, t7, sl t8, t9, .emp]) := by
  have hl := flat_len (nextL s pl) 50 F fun p _ => Nat.le_trans (nextL_len _ _ _) hpl
  obtain ⟨⟨z, a, b, c, d⟩, k⟩ := for_ext (g := gT 2 (gsCons (gN 6) (gsCons (gN 7) gsNil))) (b := lawsB) (fun acc (tl : Bool × PV.Slot × PV.Slot × Option Val × PV.Slot) => [.frz v0, .frz v1, x2, .frz v3, .own (.lst acc), ow tl.1 (.lst (pl.map (pcL s))), tl.2.1, tl.2.2.1, sl tl.2.2.2.1, tl.2.2.2.2, .emp]) 1000000 layV (fun p => (nextL s pl p).map layV) F
    (fun p hp acc tl hl => by
      obtain ⟨t8, t9, k⟩ := lawsB_ok S pl hpl p (hb p hp) acc (by omega) v0 v1 v3 x2 tl.1 tl.2.2.2.1 tl.2.2.2.2
      simp [layV]
      rw [k]
      simp) [] (b4, s6, s7, s8, s9) (by rw [← List.map_flatMap, List.length_map, List.length_nil]; omega)
  rw [← List.map_flatMap] at k
  exact ⟨z, a, b, c, d, k⟩
def rowsT : SD := (sSeq (sOwn (dLc [8] (iVal (dCB F_raw_places [(dVar 0), (dVar 3)])) (gN 8) dYes (dTup [(dVar 8), (dCB (on1 oTuple) [(dCB F_cells_of_cut [(dVar 3), (dVar 8)])])])) 4)
    (sSeq (sOwn (dLst []) 5)
    (sSeq (sFor (iVal (dIxS 2 (dUn oNeg (dC (.int 1))))) (gT 2 (gsCons (gN 6) (gsCons (gN 7) gsNil))) rowsB)
    (sExpr (dApp 2 (dVar 5))))))
theorem take_bnd {g : List Cell} {ss : List Size} (S : SzsOk ss) (i : Nat) : ∀ p ∈ cts g (ss.take i), p.1.length ≤ 3 ∧ p.2.length ≤ 300 := fun p hp => by
  have := lay_bnd (ss.take i).length (ss.take i) rfl (fun s hs => S.all s (List.mem_of_mem_take hs)) p hp
  have := S.few
  rw [List.length_take] at *
  omega
theorem rowsT_ok {h : Hide} (H : HdOk h) {ss : List Size} (S : SzsOk ss) (i : Nat) (hi : i < ss.length) (sv : Val) (s4 s5 s6 s7 s9 : PV.Slot) (s8 : Option Val) :
    ∃ t4 t5 t6 t7 t9 t8, rowsT [.frz (hideV h), .frz sv, .own (.lst (stg (good h) ss i)), .frz (enc ss[i]), s4, s5, s6, s7, sl s8, s9, .emp] = .ok (.nx [.frz (hideV h), .frz sv, .own (.lst (stg (good h) ss (i + 1))), .frz (enc ss[i]), t4, t5, t6, t7, sl t8, t9, .emp]) := by
  have hg := good_len H
  have hpl := plc_len (good h) ss[i]
  have hSi := S.all ss[i] (List.getElem_mem _)
  have kp := raw_places_ok H hSi
  have kc := fun c => cells_of_cut_ok (s := ss[i]) (by have := hSi.h1; omega) (by have := hSi.h2; omega) c
  have hF := cts_take_len hg (ss := ss) i (by have := S.few; omega)
  have hF2 : (cts (good h) (ss.take i)).length ≤ 2500 := Nat.le_trans hF (by
    have := S.few
    have : i ≤ 2 := by omega
    exact Nat.le_trans (Nat.pow_le_pow_right (by decide) this) (by decide))
  have hst := stg_succ (good h) ss i
  have hla := stg_last (good h) ss i
  have hsl : (stg (good h) ss i).length ≤ 4 := by unfold stg; simp; have := S.few; omega
  rw [List.take_add_one, List.getElem?_eq_getElem hi] at hst
  simp only [Option.toList_some] at hst
  rw [cts_snoc, stepC_eq] at hst
  have hb := take_bnd (g := good h) S i
  generalize stg (good h) ss i = st at *
  generalize stg (good h) ss (i + 1) = st1 at *
  generalize cts (good h) (ss.take i) = F at *
  generalize plc (good h) ss[i] = pl at *
  have l2 : st.length < sizeLine := Nat.lt_of_lt_of_le (show st.length < 5 by omega) (szl (by decide))
  subst hst
  have step : (sOwn (dLc [8] (iVal (dCB F_raw_places [(dVar 0), (dVar 3)])) (gN 8) dYes (dTup [(dVar 8), (dCB (on1 oTuple) [(dCB F_cells_of_cut [(dVar 3), (dVar 8)])])])) 4) [.frz (hideV h), .frz sv, .own (.lst st), .frz (enc ss[i]), s4, s5, s6, s7, sl s8, s9, .emp] = .ok (.nx [.frz (hideV h), .frz sv, .own (.lst st), .frz (enc ss[i]), .own (.lst (pl.map (pcT ss[i]))), s5, s6, s7, sl s8, s9, .emp]) := by
    generalize ss[i] = s at *
    simp only [enc_pair, enc_nat] at kp kc
    rw [sOwn_a, lcM pl cutV (pcT s) (by simp [kp]) (szl (by omega)) (fun c hc => by simp [kc, pcT]) (by cases s8 <;> simp [sl]) (by simp)]
    simp
  obtain ⟨c4, t6, t7, t8, t9, k⟩ := rowsC_ok hSi pl (by omega) F hF2 hb (hideV h) sv (enc ss[i]) st true s6 s7 s9 s8
  simp at k
  refine ⟨ow c4 (.lst (pl.map (pcT ss[i]))), .frz (.lst ((F.flatMap (nextL ss[i] pl)).map layV)), t6, t7, t9, t8, ?_⟩
  unfold rowsT
  refine PH.seq_ok step ?_
  simp [hla, k, l2]
theorem hide_cuts_ok {h : Hide} (H : HdOk h) {ss : List Size} (S : SzsOk ss) (sv : Val) (hs : seqV sv = some (ss.map enc)) : F_hide_cuts [hideV h, sv] = .ok (.lst ((cts (good h) ss).map layV), false) := by
  have key := for_inv (g := gN 3) (b := rowsT) (Q := fun r => ∃ t3 t4 t5 t6 t7 t9 t8, r = .nx [.frz (hideV h), .frz sv, .own (.lst (stg (good h) ss ss.length)), t3, t4, t5, t6, t7, sl t8, t9, .emp]) (ss.map enc)
    (fun i env => ∃ t3 t4 t5 t6 t7 t9 t8, env = [.frz (hideV h), .frz sv, .own (.lst (stg (good h) ss i)), t3, t4, t5, t6, t7, sl t8, t9, .emp])
    [.frz (hideV h), .frz sv, .own (.lst (stg (good h) ss 0)), .emp, .emp, .emp, .emp, .emp, .emp, .emp, .emp] ⟨.emp, .emp, .emp, .emp, .emp, .emp, none, rfl⟩ ?_ ?_
  · obtain ⟨r, k1, t3, t4, t5, t6, t7, t9, t8, rfl⟩ := key.ex
    have hd : d_rows_of_cuts = sSeq (sOwn (dLst [(dLst [(dTup [(dTup []), (dTup [])])])]) 2) (sSeq (sFor (iVal (dVar 1)) (gN 3) rowsT) (sRet (dVar 2))) := rfl
    have h0 : stg (good h) ss 0 = [.lst [.tup [.tup [], .tup []]]] := by simp [stg, cts, layV]
    have hla := stg_last (good h) ss ss.length
    rw [List.take_of_length_le (Nat.le_refl _)] at hla
    rw [h0] at k1
    have e : F_rows_of_cuts [hideV h, sv] = .ok (.lst (stg (good h) ss ss.length), false) := by
      generalize stg (good h) ss ss.length = st at *
      unfold F_rows_of_cuts runF
      rw [hd]
      simp [hs, k1]
    generalize stg (good h) ss ss.length = st at *
    simp [F_hide_cuts, runF, d_hide_cuts, e, hla]
  · rintro i hi env ⟨t3, t4, t5, t6, t7, t9, t8, rfl⟩
    have hi' : i < ss.length := by simpa using hi
    obtain ⟨u4, u5, u6, u7, u9, u8, k⟩ := rowsT_ok H S i hi' sv t4 t5 t6 t7 t9 t8
    rw [List.getElem_map]
    rw [show gN 3 (enc ss[i]) [.frz (hideV h), .frz sv, .own (.lst (stg (good h) ss i)), t3, t4, t5, t6, t7, sl t8, t9, .emp] = .ok [.frz (hideV h), .frz sv, .own (.lst (stg (good h) ss i)), .frz (enc ss[i]), t4, t5, t6, t7, sl t8, t9, .emp] from rfl, res_ok_bind, k]
    exact ⟨_, u4, u5, u6, u7, u9, u8, rfl⟩
  · rintro env ⟨t3, t4, t5, t6, t7, t9, t8, rfl⟩
    exact ⟨t3, t4, t5, t6, t7, t9, t8, by simp⟩
def lawsT : SD := (sSeq (sParO [4, 5] [(dLst []), (dLc [8] (iVal (dCB F__law_places [(dVar 0), (dVar 3)])) (gN 8) dYes (dTup [(dVar 8), (dCB F__law_covered [(dVar 8), (dVar 3)])]))])
    (sSeq (sFor (iVal (dVar 2)) (gT 2 (gsCons (gN 6) (gsCons (gN 7) gsNil))) lawsB)
    (sOwn (dVar 4) 2)))
theorem lawsT_ok {h : Hide} (H : HdOk h) {ss : List Size} (S : SzsOk ss) (i : Nat) (hi : i < ss.length) (sv : Val) (b2 : Bool) (s4 s5 s6 s7 s9 : PV.Slot) (s8 : Option Val) :
    ∃ t4 t5 t6 t7 t9 t8, lawsT [.frz (hideV h), .frz sv, ow b2 (.lst ((cts (good h) (ss.take i)).map layV)), .frz (enc ss[i]), s4, s5, s6, s7, sl s8, s9, .emp] = .ok (.nx [.frz (hideV h), .frz sv, ow false (.lst ((cts (good h) (ss.take (i + 1))).map layV)), .frz (enc ss[i]), t4, t5, t6, t7, sl t8, t9, .emp]) := by
  have hg := good_len H
  have hpl := plc_len (good h) ss[i]
  have hSi := S.all ss[i] (List.getElem_mem _)
  have kp := law_places_ok H hSi
  have kc := fun c => law_covered_ok (s := ss[i]) (by have := hSi.h1; omega) (by have := hSi.h2; omega) c
  have hF := cts_take_len hg (ss := ss) i (by have := S.few; omega)
  have hF2 : (cts (good h) (ss.take i)).length ≤ 2500 := Nat.le_trans hF (by
    have := S.few
    have : i ≤ 2 := by omega
    exact Nat.le_trans (Nat.pow_le_pow_right (by decide) this) (by decide))
  have hb := take_bnd (g := good h) S i
  rw [List.take_add_one, List.getElem?_eq_getElem hi]
  simp only [Option.toList_some]
  rw [cts_snoc, stepC_eq]
  generalize cts (good h) (ss.take i) = F at *
  generalize plc (good h) ss[i] = pl at *
  have step : (sParO [4, 5] [(dLst []), (dLc [8] (iVal (dCB F__law_places [(dVar 0), (dVar 3)])) (gN 8) dYes (dTup [(dVar 8), (dCB F__law_covered [(dVar 8), (dVar 3)])]))]) [.frz (hideV h), .frz sv, ow b2 (.lst (F.map layV)), .frz (enc ss[i]), s4, s5, s6, s7, sl s8, s9, .emp] = .ok (.nx [.frz (hideV h), .frz sv, ow b2 (.lst (F.map layV)), .frz (enc ss[i]), .own (.lst []), .own (.lst (pl.map (pcL ss[i]))), s6, s7, sl s8, s9, .emp]) := by
    generalize ss[i] = s at *
    simp only [enc_pair, enc_nat] at kp kc
    simp
    rw [lcM pl cutV (pcL s) (by simp [kp]) (szl (by omega)) (fun c hc => by simp [kc, pcL]) (by cases s8 <;> simp [sl]) (by simp)]
    simp
  obtain ⟨c4, t6, t7, t8, t9, k⟩ := lawsC_ok hSi pl (by omega) F hF2 hb (hideV h) sv (enc ss[i]) true (.frz (.lst (F.map layV))) s6 s7 s9 s8
  simp at k
  refine ⟨.frz (.lst ((F.flatMap (nextL ss[i] pl)).map layV)), ow c4 (.lst (pl.map (pcL ss[i]))), t6, t7, t9, t8, ?_⟩
  unfold lawsT
  refine PH.seq_ok step ?_
  cases b2 <;> simp [k]
theorem law_cuts_ok {h : Hide} (H : HdOk h) {ss : List Size} (S : SzsOk ss) (sv : Val) (hs : seqV sv = some (ss.map enc)) : F__law_cuts [hideV h, sv] = .ok (.lst ((cts (good h) ss).map layV), false) := by
  have key := for_inv (g := gN 3) (b := lawsT) (Q := fun r => ∃ b2 t3 t4 t5 t6 t7 t9 t8, r = .nx [.frz (hideV h), .frz sv, ow b2 (.lst ((cts (good h) ss).map layV)), t3, t4, t5, t6, t7, sl t8, t9, .emp]) (ss.map enc)
    (fun i env => ∃ b2 t3 t4 t5 t6 t7 t9 t8, env = [.frz (hideV h), .frz sv, ow b2 (.lst ((cts (good h) (ss.take i)).map layV)), t3, t4, t5, t6, t7, sl t8, t9, .emp])
    [.frz (hideV h), .frz sv, .own (.lst [.tup [.tup [], .tup []]]), .emp, .emp, .emp, .emp, .emp, .emp, .emp, .emp] ⟨true, .emp, .emp, .emp, .emp, .emp, .emp, none, by simp [cts, layV, sl]⟩ ?_ ?_
  · obtain ⟨r, k1, b2, t3, t4, t5, t6, t7, t9, t8, rfl⟩ := key.ex
    have hd : d__law_cuts = sSeq (sOwn (dLst [(dTup [(dTup []), (dTup [])])]) 2) (sSeq (sFor (iVal (dVar 1)) (gN 3) lawsT) (sRet (dVar 2))) := rfl
    unfold F__law_cuts runF
    rw [hd]
    cases b2 <;> simp [hs, k1]
  · rintro i hi env ⟨b2, t3, t4, t5, t6, t7, t9, t8, rfl⟩
    have hi' : i < ss.length := by simpa using hi
    obtain ⟨u4, u5, u6, u7, u9, u8, k⟩ := lawsT_ok H S i hi' sv b2 t4 t5 t6 t7 t9 t8
    rw [List.getElem_map]
    rw [show gN 3 (enc ss[i]) [.frz (hideV h), .frz sv, ow b2 (.lst ((cts (good h) (ss.take i)).map layV)), t3, t4, t5, t6, t7, sl t8, t9, .emp] = .ok [.frz (hideV h), .frz sv, ow b2 (.lst ((cts (good h) (ss.take i)).map layV)), .frz (enc ss[i]), t4, t5, t6, t7, sl t8, t9, .emp] from rfl, res_ok_bind, k]
    exact ⟨false, _, u4, u5, u6, u7, u9, u8, rfl⟩
  · rintro env ⟨b2, t3, t4, t5, t6, t7, t9, t8, rfl⟩
    exact ⟨b2, t3, t4, t5, t6, t7, t9, t8, by simp⟩
end Pc

namespace Pc
open PySem PySem.Spec PyProof.Rows L2 PV Sh
open EV (enc)
open PH (szl)
theorem is_integer_i (i : Int) : F_is_integer [.int i] = .ok (.bl true, false) := by simp [F_is_integer, runF, d_is_integer]
theorem is_within_i (i lo hi : Int) : F_is_within [.int i, .int lo, .int hi] = .ok (.bl (decide (lo ≤ i) && decide (i ≤ hi)), false) := by
  simp [F_is_within, runF, d_is_within, is_integer_i]
  by_cases h : lo ≤ i <;> simp [h]
theorem is_sized_t (vs : List Val) (lo hi : Int) : F_is_sized [.tup vs, .int lo, .int hi] = .ok (.bl (decide (lo ≤ (vs.length : Int)) && decide ((vs.length : Int) ≤ hi)), false) := by
  simp [F_is_sized, runF, d_is_sized]
  by_cases h : lo ≤ (vs.length : Int) <;> simp [h]
theorem ix0 (v : Val) (vs : List Val) : oIx (.tup (v :: vs)) (.int 0) = .ok (v, false) := oIx_t _ _ (by have := atI_nat' (xs := v :: vs) (i := 0) (by simp); simpa using this)
theorem is_hide_ok {h : Hide} (H : HdOk h) : F_is_hide [hideV h] = .ok (.bl true, false) := by
  obtain ⟨w, w1, w2, hw⟩ := H.wide
  have h1 := H.one
  have h2 := H.few
  have hs := H.sign
  have hfl : h.flatten.length ≤ 25 := by
    have := flat_len (fun r : List Nat => r) 5 h fun r hr => by rw [hw r hr]; exact w2
    rw [List.flatMap_id'] at this
    omega
  have hj := oJoinL_x h (by omega)
  obtain ⟨r0, rs, e⟩ : ∃ r0 rs, h = r0 :: rs := by cases h with
    | nil => simp at h1
    | cons r rs => exact ⟨r, rs, rfl⟩
  have hi : oIx (.tup (h.map tx)) (.int 0) = .ok (tx r0, false) := by rw [e]; exact ix0 _ _
  have hr0 : r0.length = w := hw r0 (by rw [e]; simp)
  have ho := oLen_x r0 (szl (by omega))
  rw [hr0] at ho
  have t1 : (1 : Int) ≤ w := by omega
  have t2 : (w : Int) ≤ 5 := by omega
  have t3 : (1 : Int) ≤ h.length := by omega
  have t4 : (h.length : Int) ≤ 5 := by omega
  simp [F_is_hide, runF, d_is_hide, hideV, is_sized_t, t3, t4]
  rw [lcM h tx (fun _ => .bl true) (by simp) (szl (by omega)) (fun x hx => by simp) (by simp) (by simp)]
  simp [hi, ho, t1, t2]
  rw [lcM h tx (fun _ => .bl false) (by simp) (szl (by omega)) (fun x hx => by
    have := hw x hx
    have q := oLen_x x (szl (by omega))
    rw [this] at q
    simp [hi, q, ho]) (by simp) (by simp)]
  simp [hj]
  have hs2 : ∀ c ∈ h.flatten, c = 46 ∨ c = 35 := fun c hc => by
    obtain ⟨r, hr, hc⟩ := List.mem_flatten.mp hc
    exact hs r hr c hc
  generalize h.flatten = fl at *
  rw [lcM fl (fun c => tx [c]) (fun _ => .bl true) (by simp [hj]) (szl (by omega)) (fun c hc => by
    have := hs2 c hc
    simp [this]) (by simp) (by simp)]
  simp
theorem check_hide_ok {h : Hide} (H : HdOk h) : F_check_hide [hideV h] = .ok (.non, false) := by
  simp [F_check_hide, runF, d_check_hide, is_hide_ok H]
theorem is_size_ok {s : Size} (S : SzOk s) : F_is_size [enc s] = .ok (.bl true, false) := by
  have a := S.h1
  have b := S.h2
  have : ∀ x ∈ [s.1, s.2], 1 ≤ x ∧ x ≤ 4 := by simp; omega
  simp [F_is_size, runF, d_is_size, is_sized_t]
  rw [lcM [s.1, s.2] enc (fun _ => .bl true) (by simp) (szl (by simp)) (fun x hx => by
    have := this x hx
    have t1 : (1 : Int) ≤ x := by omega
    have t2 : (x : Int) ≤ 4 := by omega
    simp [is_within_i, t1, t2]) (by simp) (by simp)]
  have := oAll_l [true, true]
  simp at this
  simp [this]
theorem are_leaf_sizes_ok {ss : List Size} (S : SzsOk ss) (h1 : 1 ≤ ss.length) : F_are_leaf_sizes [.tup (ss.map enc)] = .ok (.bl true, false) := by
  have t3 : (1 : Int) ≤ ss.length := by omega
  have t4 : (ss.length : Int) ≤ 3 := by have := S.few; omega
  simp [F_are_leaf_sizes, runF, d_are_leaf_sizes, is_sized_t, t3, t4]
  rw [lcM ss enc (fun _ => .bl true) (by simp) (szl (by omega)) (fun x hx => by
    have := is_size_ok (S.all x hx)
    simp only [enc_pair, enc_nat] at this
    simp [this]) (by simp) (by simp)]
  simp
theorem check_sizes_ok {h : Hide} (H : HdOk h) {ss : List Size} (S : SzsOk ss) (h1 : 1 ≤ ss.length) : F_check_sizes [hideV h, .tup (ss.map enc)] = .ok (.non, false) := by
  simp [F_check_sizes, runF, d_check_sizes, check_hide_ok H, are_leaf_sizes_ok S h1]
/-! ### needs -/
def need (ss : List Size) : Int := (ss.map fun s => (s.1 : Int) * s.2).sum
theorem mul_small {a b : Nat} (h : a ≤ 10) : mulOk (a : Int) b = true := PH.mul_l (by omega)
theorem needed_cells_ok {ss : List Size} (S : SzsOk ss) : F_needed_cells [.tup (ss.map enc)] = .ok (.int (need ss), false) := by
  have hf := S.few
  simp [F_needed_cells, runF, d_needed_cells]
  rw [lcM ss enc (fun s => .int ((s.1 : Int) * s.2)) (by simp) (szl (by omega)) (fun x hx => by
    have := S.all x hx
    simp [oMul_ii _ _ (mul_small (a := x.1) (b := x.2) (by have := this.h1; omega))]) (by simp) (by simp)]
  simp [need]
theorem cts_len {g : List Cell} (hg : g.length ≤ 25) {ss : List Size} (S : SzsOk ss) : (cts g ss).length ≤ 125000 := by
  have := cts_take_len hg (ss := ss) ss.length S.few
  rw [List.take_of_length_le (Nat.le_refl _)] at this
  exact Nat.le_trans this (Nat.le_trans (Nat.pow_le_pow_right (by decide) S.few) (by decide))
def waste (h : Hide) (ss : List Size) : Option Int := if (cts (good h) ss).isEmpty then none else some ((good h).length - need ss)
theorem waste_of_ok {h : Hide} (H : HdOk h) {ss : List Size} (S : SzsOk ss) (h1 : 1 ≤ ss.length) : F_waste_of [hideV h, .tup (ss.map enc)] = .ok (enc (waste h ss), false) := by
  have e1 := check_sizes_ok H S h1
  have e2 := hide_cuts_ok H S (.tup (ss.map enc)) rfl
  have e3 := raw_good_ok H
  have e4 := needed_cells_ok S
  unfold waste
  generalize cts (good h) ss = F at *
  generalize good h = g at *
  simp [F_waste_of, runF, d_waste_of, e1, e2, e3, e4]
  cases F <;> simp
/-- the cells that every way takes -/
def needC (g : List Cell) (ss : List Size) : List Cell := g.filter fun c => !(cts g ss).isEmpty && (cts g ss).all fun p => decide (c ∈ p.2)
theorem needed_hide_cells_ok {h : Hide} (H : HdOk h) {ss : List Size} (S : SzsOk ss) (h1 : 1 ≤ ss.length) : F_needed_hide_cells [hideV h, .tup (ss.map enc)] = .ok (.tup ((needC (good h) ss).map enc), false) := by
  have e1 := check_sizes_ok H S h1
  have e2 := hide_cuts_ok H S (.tup (ss.map enc)) rfl
  have e3 := raw_good_ok H
  have l1 := cts_len (good_len H) S
  have l2 := good_len H
  unfold needC
  generalize cts (good h) ss = F at *
  generalize good h = g at *
  simp [F_needed_hide_cells, runF, d_needed_hide_cells, e1]
  rw [lcM F layV (fun p => .tup (p.2.map enc)) (by simp [e2]) (szl (by omega)) (fun p hp => by simp [layV]) (by simp) (by simp)]
  simp
  obtain ⟨en, ⟨b, rfl⟩, k⟩ := lcI (own := [5]) (it := (iVal (dCB F_raw_good [(dVar 0)]))) (g := (gN 5)) (t := (dAndT (dTruS 2) (dTru (dCB (on1 oAll) [(dLc [4] (iVal (dVar 2)) (gN 4) dYes (dRS oIn (dVar 5) 4))])))) (elt := (dVar 5)) (env := [.frz (hideV h), .frz (.tup (ss.map enc)), .own (.lst (F.map fun p => .tup (p.2.map enc))), .emp, .emp, .emp]) (env1 := [.frz (hideV h), .frz (.tup (ss.map enc)), .own (.lst (F.map fun p => .tup (p.2.map enc))), .emp, .emp, .emp])
    g enc enc (fun c => !F.isEmpty && F.all fun p => decide (c ∈ p.2)) (fun en => ∃ b, en = [.frz (hideV h), .frz (.tup (ss.map enc)), ow b (.lst (F.map fun p => .tup (p.2.map enc))), .emp, .emp, .emp]) (by simp [e3]) (by simp) (szl (by omega)) ⟨true, by simp⟩ (fun c hc en hen => by
      obtain ⟨b, rfl⟩ := hen
      by_cases hF : F = []
      · subst hF
        cases b <;> simp
      · have step : dLc [4] (iVal (dVar 2)) (gN 4) dYes (dRS oIn (dVar 5) 4) [.frz (hideV h), .frz (.tup (ss.map enc)), ow b (.lst (F.map fun p => .tup (p.2.map enc))), .emp, .emp, .frz (.tup [.int c.1, .int c.2])] = .ok (.lst (F.map fun p => .bl (decide (c ∈ p.2))), true, [.frz (hideV h), .frz (.tup (ss.map enc)), .frz (.lst (F.map fun p => .tup (p.2.map enc))), .emp, .emp, .frz (.tup [.int c.1, .int c.2])]) := by
          rw [lc_map (env1 := [.frz (hideV h), .frz (.tup (ss.map enc)), .frz (.lst (F.map fun p => .tup (p.2.map enc))), .emp, .emp, .frz (.tup [.int c.1, .int c.2])]) F (fun p => .tup (p.2.map enc)) (fun p => .bl (decide (c ∈ p.2))) (by cases b <;> simp) (by simp) (szl (by omega)) (fun p hp => by simp [in_u]) (by simp)]
        have hF' : F.isEmpty = false := by cases F <;> simp at hF ⊢
        cases hh : F.all (fun p => decide (c ∈ p.2)) <;> cases b <;> simp at step <;> simp [step, hF, hh])
  simp at k
  simp [k]
end Pc

namespace Pc
open PySem PySem.Spec PyProof.Rows L2 PV Sh
open EV (enc)
open PH (szl)
theorem cut_0n {α : Type} (xs : List α) (j : Nat) : cut xs none (some (j : Int)) = xs.take j := by
  unfold cut
  rw [HT.sIx_none, HT.sIx_nat]
  simp only [Nat.sub_zero, List.drop_zero]
  by_cases h : j ≤ xs.length
  · rw [Nat.min_eq_left h]
  · rw [Nat.min_eq_right (by omega), List.take_length, List.take_of_length_le (by omega)]
def rowAt (h : Hide) (r : Nat) : List Nat := h.getD r []
def holeR (row : List Nat) (c : Nat) : List Nat := row.take c ++ [35] ++ row.drop (c + 1)
def holeH (h : Hide) (c : Cell) : Hide := h.take c.1 ++ [holeR (rowAt h c.1) c.2] ++ h.drop (c.1 + 1)
theorem mem_rowG {i : Nat} {row : List Nat} {c : Cell} : c ∈ rowG i row ↔ c.1 = i ∧ row[c.2]? = some 46 := by
  unfold rowG
  rw [List.mem_map]
  constructor
  · rintro ⟨⟨x, j⟩, hm, rfl⟩
    obtain ⟨h1, h2⟩ := List.mem_filter.mp hm
    rw [List.mem_zipIdx_iff_getElem?] at h1
    simp at h1 h2
    subst h2
    exact ⟨rfl, h1⟩
  · rintro ⟨h1, h2⟩
    refine ⟨(46, c.2), List.mem_filter.mpr ⟨?_, rfl⟩, by rw [← h1]⟩
    rw [List.mem_zipIdx_iff_getElem?]; simpa using h2
theorem mem_good {h : Hide} {c : Cell} : c ∈ good h ↔ ∃ row, h[c.1]? = some row ∧ row[c.2]? = some 46 := by
  unfold good
  rw [List.mem_flatMap]
  constructor
  · rintro ⟨⟨row, i⟩, hm, hc⟩
    rw [List.mem_zipIdx_iff_getElem?] at hm
    obtain ⟨h1, h2⟩ := mem_rowG.mp hc
    simp at hm h1
    exact ⟨row, by rw [h1]; exact hm, h2⟩
  · rintro ⟨row, h1, h2⟩
    exact ⟨(row, c.1), by rw [List.mem_zipIdx_iff_getElem?]; exact h1, mem_rowG.mpr ⟨rfl, h2⟩⟩
theorem good_at {h : Hide} {c : Cell} (hc : c ∈ good h) : c.1 < h.length ∧ c.2 < (rowAt h c.1).length ∧ rowAt h c.1 ∈ h := by
  obtain ⟨row, h1, h2⟩ := mem_good.mp hc
  obtain ⟨a, b⟩ := List.getElem?_eq_some_iff.mp h1
  obtain ⟨a2, _⟩ := List.getElem?_eq_some_iff.mp h2
  have : rowAt h c.1 = row := by unfold rowAt; rw [List.getD_eq_getElem?_getD, h1]; rfl
  rw [this]
  exact ⟨a, a2, by rw [← b]; exact List.getElem_mem _⟩
theorem holeR_len {row : List Nat} {c : Nat} (h : c < row.length) : (holeR row c).length = row.length := by
  unfold holeR; simp; omega
theorem hole_ok {h : Hide} (H : HdOk h) {c : Cell} (hc : c ∈ good h) : HdOk (holeH h c) := by
  obtain ⟨a, b, m⟩ := good_at hc
  obtain ⟨w, w1, w2, hw⟩ := H.wide
  have e : (holeH h c).length = h.length := by unfold holeH; simp; omega
  refine ⟨by rw [e]; exact H.one, by rw [e]; exact H.few, ⟨w, w1, w2, fun r hr => ?_⟩, fun r hr x hx => ?_⟩
  · unfold holeH at hr
    rcases List.mem_append.mp hr with hr | hr
    · rcases List.mem_append.mp hr with hr | hr
      · exact hw r (List.mem_of_mem_take hr)
      · obtain rfl := List.mem_singleton.mp hr
        rw [holeR_len b]; exact hw _ m
    · exact hw r (List.mem_of_mem_drop hr)
  · unfold holeH at hr
    rcases List.mem_append.mp hr with hr | hr
    · rcases List.mem_append.mp hr with hr | hr
      · exact H.sign r (List.mem_of_mem_take hr) x hx
      · obtain rfl := List.mem_singleton.mp hr
        unfold holeR at hx
        rcases List.mem_append.mp hx with hx | hx
        · rcases List.mem_append.mp hx with hx | hx
          · exact H.sign _ m x (List.mem_of_mem_take hx)
          · exact .inr (List.mem_singleton.mp hx)
        · exact H.sign _ m x (List.mem_of_mem_drop hx)
    · exact H.sign r (List.mem_of_mem_drop hr) x hx
theorem raw_hole_ok {h : Hide} (H : HdOk h) {c : Cell} (hc : c ∈ good h) : F_raw_hole [hideV h, enc c] = .ok (hideV (holeH h c), false) := by
  obtain ⟨a, b, m⟩ := good_at hc
  have l5 := row_sm H m
  have f5 := H.few
  have ei : oIx (.tup (h.map tx)) (.int (c.1 : Int)) = .ok (tx (rowAt h c.1), false) := oIx_t _ _ (by
    rw [atI_map, atI_nat' a]
    simp [rowAt, List.getD_eq_getElem?_getD, List.getElem?_eq_getElem a])
  have s1 := oSl_x (rowAt h c.1) none (some (c.2 : Int)) (szl (by omega))
  have s2 := oSl_x (rowAt h c.1) (some ((c.2 + 1 : Nat) : Int)) none (szl (by omega))
  have a1 := oAdd_x ((rowAt h c.1).take c.2) [35] (szl (by simp; omega))
  have a2 := oAdd_x ((rowAt h c.1).take c.2 ++ [35]) ((rowAt h c.1).drop (c.2 + 1)) (szl (by simp; omega))
  rw [cut_0n] at s1
  rw [cut_n] at s2
  have c1 := cut_0n h c.1
  have c2 := cut_n h (c.1 + 1)
  have a3 := oAdd_tt ((h.take c.1).map tx) [tx (holeR (rowAt h c.1) c.2)] (szl (by simp; omega))
  have a4 := oAdd_tt ((h.take c.1).map tx ++ [tx (holeR (rowAt h c.1) c.2)]) ((h.drop (c.1 + 1)).map tx) (szl (by simp; omega))
  simp at s2 c2
  unfold holeR at a3 a4
  unfold holeH holeR
  generalize rowAt h c.1 = row at *
  simp [-List.map_take, -List.map_drop] at a1 a2 a3 a4
  simp [F_raw_hole, runF, d_raw_hole, hideV, ei, s1, s2, a1, a2, c1, c2, a3, a4, -List.map_take, -List.map_drop]
theorem law_holed_ok {h : Hide} (H : HdOk h) {c : Cell} (hc : c ∈ good h) : F__law_holed [hideV h, enc c] = .ok (hideV (holeH h c), false) := by
  obtain ⟨a, b, m⟩ := good_at hc
  have l5 := row_sm H m
  have f5 := H.few
  have ei : oIx (.tup (h.map tx)) (.int (c.1 : Int)) = .ok (tx (rowAt h c.1), false) := oIx_t _ _ (by
    rw [atI_map, atI_nat' a]
    simp [rowAt, List.getD_eq_getElem?_getD, List.getElem?_eq_getElem a])
  have s1 := oSl_x (rowAt h c.1) none (some (c.2 : Int)) (szl (by omega))
  have s2 := oSl_x (rowAt h c.1) (some ((c.2 + 1 : Nat) : Int)) none (szl (by omega))
  have a1 := oAdd_x ((rowAt h c.1).take c.2) [35] (szl (by simp; omega))
  have a2 := oAdd_x ((rowAt h c.1).take c.2 ++ [35]) ((rowAt h c.1).drop (c.2 + 1)) (szl (by simp; omega))
  rw [cut_0n] at s1
  rw [cut_n] at s2
  have c1 := cut_0n h c.1
  have c2 := cut_n h (c.1 + 1)
  have a3 := oAdd_tt ((h.take c.1).map tx) [tx (holeR (rowAt h c.1) c.2)] (szl (by simp; omega))
  have a4 := oAdd_tt ((h.take c.1).map tx ++ [tx (holeR (rowAt h c.1) c.2)]) ((h.drop (c.1 + 1)).map tx) (szl (by simp; omega))
  simp at s2 c2
  unfold holeR at a3 a4
  unfold holeH holeR
  generalize rowAt h c.1 = row at *
  simp [-List.map_take, -List.map_drop] at a1 a2 a3 a4
  simp [F__law_holed, runF, d__law_holed, hideV, ei, s1, s2, a1, a2, c1, c2, a3, a4, -List.map_take, -List.map_drop]
theorem with_hole_ok {h : Hide} (H : HdOk h) {c : Cell} (hc : c ∈ good h) : F_with_hole [hideV h, enc c] = .ok (hideV (holeH h c), false) := by
  obtain ⟨a, b, m⟩ := good_at hc
  have l5 := row_sm H m
  have f5 := H.few
  have : ∀ x ∈ [c.1, c.2], x ≤ 4 := by simp; omega
  have e1 := raw_hole_ok H hc
  have e2 := raw_good_ok H
  have e3 := oNotIn_l c (good h) (by decide)
  simp only [enc_pair, enc_nat] at e1 e3
  simp [hc] at e3
  simp [F_with_hole, runF, d_with_hole, check_hide_ok H, is_sized_t]
  rw [lcM [c.1, c.2] enc (fun _ => .bl true) (by simp) (szl (by simp)) (fun x hx => by
    have := this x hx
    have t1 : (0 : Int) ≤ x := by omega
    have t2 : (x : Int) ≤ 4 := by omega
    simp [is_within_i, t1, t2]) (by simp) (by simp)]
  have := oAll_l [true, true]
  simp at this
  simp [this, e1, e2, e3]
/-! ### what a hole does -/
theorem filter_ne {α : Type} [DecidableEq α] {xs : List α} {c : α} (h : c ∉ xs) : xs.filter (fun x => !decide (x = c)) = xs := by
  rw [List.filter_eq_self]
  intro x hx
  have : x ≠ c := fun z => h (z ▸ hx)
  simp [this]
def rowF (i k : Nat) (row : List Nat) : List Cell := ((row.zipIdx k).filter fun q => q.1 == 46).map fun q => (i, q.2)
theorem rowF_app (i k : Nat) (a b : List Nat) : rowF i k (a ++ b) = rowF i k a ++ rowF i (k + a.length) b := by
  unfold rowF; rw [List.zipIdx_append, List.filter_append, List.map_append]
theorem rowF_mem {i k : Nat} {row : List Nat} {c : Cell} (h : c ∈ rowF i k row) : c.1 = i ∧ k ≤ c.2 ∧ c.2 < k + row.length := by
  unfold rowF at h
  obtain ⟨⟨x, j⟩, hm, rfl⟩ := List.mem_map.mp h
  have := List.mem_zipIdx (List.mem_filter.mp hm).1
  exact ⟨rfl, this.1, this.2.1⟩
theorem rowG_hole (i : Nat) {row : List Nat} {c : Nat} (h : c < row.length) : rowG i (holeR row c) = (rowG i row).filter fun x => !decide (x = (i, c)) := by
  have e1 : row = row.take c ++ [row[c]] ++ row.drop (c + 1) := by simp
  have l : (row.take c).length = c := by simp; omega
  show rowF i 0 (holeR row c) = (rowF i 0 row).filter _
  conv => rhs; rw [e1]
  unfold holeR
  rw [rowF_app, rowF_app, rowF_app, rowF_app, List.filter_append, List.filter_append]
  rw [filter_ne fun hm => by have := rowF_mem hm; simp at this; omega, filter_ne (xs := rowF i _ (row.drop (c + 1))) fun hm => by have := rowF_mem hm; simp at this; omega]
  have m1 : rowF i (0 + (row.take c).length) [35] = [] := rfl
  have m2 : (rowF i (0 + (row.take c).length) [row[c]]).filter (fun x => !decide (x = (i, c))) = [] := by
    rw [List.filter_eq_nil_iff]
    intro x hx
    have := rowF_mem hx
    have : x = (i, c) := by ext <;> simp <;> simp at this <;> omega
    simp [this]
  rw [m1, m2]; simp
  rw [show min c row.length + 1 = min (c + 1) row.length by omega]
def goodF (k : Nat) (h : Hide) : List Cell := (h.zipIdx k).flatMap fun p => rowG p.2 p.1
theorem goodF_app (k : Nat) (a b : Hide) : goodF k (a ++ b) = goodF k a ++ goodF (k + a.length) b := by
  unfold goodF; rw [List.zipIdx_append, List.flatMap_append]
theorem goodF_mem {k : Nat} {h : Hide} {c : Cell} (hc : c ∈ goodF k h) : k ≤ c.1 ∧ c.1 < k + h.length := by
  unfold goodF at hc
  obtain ⟨⟨row, i⟩, hm, hr⟩ := List.mem_flatMap.mp hc
  have := List.mem_zipIdx hm
  have e := (mem_rowG.mp hr).1
  simp at e this
  omega
theorem good_hole {h : Hide} {c : Cell} (hc : c ∈ good h) : good (holeH h c) = (good h).filter fun x => !decide (x = c) := by
  obtain ⟨a, b, m⟩ := good_at hc
  have er : rowAt h c.1 = h[c.1] := by simp [rowAt, List.getD_eq_getElem?_getD, List.getElem?_eq_getElem a]
  have e1 : h = h.take c.1 ++ [rowAt h c.1] ++ h.drop (c.1 + 1) := by rw [er]; simp
  have l : (h.take c.1).length = c.1 := by simp; omega
  show goodF 0 (holeH h c) = (goodF 0 h).filter _
  conv => rhs; rw [e1]
  unfold holeH
  rw [goodF_app, goodF_app, goodF_app, goodF_app, List.filter_append, List.filter_append]
  rw [filter_ne fun hm => by have := goodF_mem hm; simp at this; omega, filter_ne (xs := goodF _ (h.drop (c.1 + 1))) fun hm => by have := goodF_mem hm; simp at this; omega]
  have m1 : goodF (0 + (h.take c.1).length) [holeR (rowAt h c.1) c.2] = rowG c.1 (holeR (rowAt h c.1) c.2) := by simp [goodF, l]
  have m2 : goodF (0 + (h.take c.1).length) [rowAt h c.1] = rowG c.1 (rowAt h c.1) := by simp [goodF, l]
  rw [m1, m2, rowG_hole c.1 b]
  simp
end Pc

namespace Pc
open PySem PySem.Spec PyProof.Rows L2 PV Sh
open EV (enc)
open PH (szl)
theorem cov_self {s : Size} (S : SzOk s) (r q : Nat) (t : Bool) : (r, q) ∈ cov s (r, q, t) := by
  have h1 := S.h1
  have h2 := S.h2
  have : 1 ≤ (turnS s t).1 ∧ 1 ≤ (turnS s t).2 := by unfold turnS; split <;> exact ⟨by omega, by omega⟩
  unfold cov
  rw [List.mem_flatMap]
  refine ⟨0, List.mem_range.mpr this.1, ?_⟩
  rw [List.mem_map]
  exact ⟨0, List.mem_range.mpr this.2, rfl⟩
theorem plc_hole (g : List Cell) {s : Size} (S : SzOk s) (c : Cell) : plc (g.filter fun x => !decide (x = c)) s = (plc g s).filter fun k => !decide (c ∈ cov s k) := by
  unfold plc
  have key : ∀ xs : List Cell, (xs.filter fun x => !decide (x = c)).flatMap (fun d => ((ways s).filter fun t => (cov s (d.1, d.2, t)).all fun x => decide (x ∈ g.filter fun x => !decide (x = c))).map fun t => (d.1, d.2, t)) = (xs.flatMap fun d => ((ways s).filter fun t => (cov s (d.1, d.2, t)).all fun x => decide (x ∈ g)).map fun t => (d.1, d.2, t)).filter fun k => !decide (c ∈ cov s k) := fun xs => by
    induction xs with
    | nil => rfl
    | cons d xs ih =>
      rw [List.flatMap_cons, List.filter_append, ← ih, List.filter_cons]
      by_cases hd : d = c
      · subst hd
        have : ((((ways s).filter fun t => (cov s (d.1, d.2, t)).all fun x => decide (x ∈ g)).map fun t => (d.1, d.2, t)).filter fun k => !decide (d ∈ cov s k)) = [] := by
          rw [List.filter_eq_nil_iff]
          intro k hk
          obtain ⟨t, _, rfl⟩ := List.mem_map.mp hk
          have := cov_self S d.1 d.2 t
          simp [this]
        rw [this]; simp
      · rw [if_pos (by simp [hd]), List.flatMap_cons]
        congr 1
        rw [List.filter_map, List.filter_filter]
        congr 1
        apply List.filter_congr
        intro t _
        simp only [Function.comp]
        rw [Bool.eq_iff_iff]
        simp only [List.all_eq_true, Bool.and_eq_true, decide_eq_true_eq, List.mem_filter, Bool.not_eq_true', decide_eq_false_iff_not]
        constructor
        · intro h
          exact ⟨fun z => (h c z).2 rfl, fun x hx => (h x hx).1⟩
        · rintro ⟨h1, h2⟩ x hx
          exact ⟨h2 x hx, fun z => h1 (z ▸ hx)⟩
  exact key g
theorem step_hole (g : List Cell) {s : Size} (S : SzOk s) (c : Cell) (F : List Lay) : stepC (g.filter fun x => !decide (x = c)) (F.filter fun p => !decide (c ∈ p.2)) s = (stepC g F s).filter fun p => !decide (c ∈ p.2) := by
  rw [stepC_eq, stepC_eq, plc_hole g S c]
  induction F with
  | nil => rfl
  | cons p F ih =>
    rw [List.flatMap_cons, List.filter_append, ← ih, List.filter_cons]
    by_cases hp : c ∈ p.2
    · rw [if_neg (by simp [hp])]
      have : (nextL s (plc g s) p).filter (fun p => !decide (c ∈ p.2)) = [] := by
        rw [List.filter_eq_nil_iff]
        intro k hk
        unfold nextL at hk
        obtain ⟨t, _, rfl⟩ := List.mem_map.mp hk
        simp [hp]
      rw [this]; rfl
    · rw [if_pos (by simp [hp]), List.flatMap_cons]
      congr 1
      unfold nextL
      rw [List.filter_map, List.filter_filter, List.filter_filter]
      congr 1
      apply List.filter_congr
      intro t _
      simp only [Function.comp]
      rw [Bool.eq_iff_iff]
      simp [hp, and_comm]
theorem cts_hole (g : List Cell) {ss : List Size} (hs : ∀ s ∈ ss, SzOk s) (c : Cell) : cts (g.filter fun x => !decide (x = c)) ss = (cts g ss).filter fun p => !decide (c ∈ p.2) := by
  unfold cts
  have key : ∀ (ss : List Size) (F : List Lay), (∀ s ∈ ss, SzOk s) → ss.foldl (stepC (g.filter fun x => !decide (x = c))) (F.filter fun p => !decide (c ∈ p.2)) = (ss.foldl (stepC g) F).filter fun p => !decide (c ∈ p.2) := fun ss => by
    induction ss with
    | nil => intro F _; rfl
    | cons s ss ih =>
      intro F h
      rw [List.foldl_cons, List.foldl_cons, step_hole g (h s (by simp)) c F]
      exact ih _ fun s hs => h s (by simp [hs])
  have := key ss [([], [])] hs
  simpa using this
theorem hole_empty (g : List Cell) {ss : List Size} (hs : ∀ s ∈ ss, SzOk s) (c : Cell) : (cts (g.filter fun x => !decide (x = c)) ss).isEmpty = (cts g ss).all fun p => decide (c ∈ p.2) := by
  rw [cts_hole g hs c, Bool.eq_iff_iff, List.isEmpty_iff, List.filter_eq_nil_iff, List.all_eq_true]
  constructor
  · intro h p hp; simpa using h p hp
  · intro h p hp; simpa using h p hp
theorem harmful_ok {h : Hide} (H : HdOk h) {ss : List Size} (S : SzsOk ss) (h1 : 1 ≤ ss.length) : F_harmful_holes [hideV h, .tup (ss.map enc)] = .ok (.tup ((needC (good h) ss).map enc), false) := by
  have e1 := check_sizes_ok H S h1
  have e2 := hide_cuts_ok H S (.tup (ss.map enc)) rfl
  have e3 := raw_good_ok H
  have l2 := good_len H
  have each : ∀ c ∈ good h, F_raw_hole [hideV h, enc c] = .ok (hideV (holeH h c), false) ∧ F_hide_cuts [hideV (holeH h c), .tup (ss.map enc)] = .ok (.lst ((cts (good (holeH h c)) ss).map layV), false) ∧ (cts (good (holeH h c)) ss).isEmpty = (cts (good h) ss).all fun p => decide (c ∈ p.2) := fun c hc =>
    ⟨raw_hole_ok H hc, hide_cuts_ok (hole_ok H hc) S _ rfl, by rw [good_hole hc]; exact hole_empty _ S.all c⟩
  by_cases hF : (cts (good h) ss).isEmpty = true
  · have : needC (good h) ss = [] := by
      unfold needC
      rw [List.filter_eq_nil_iff]
      intro c _
      simp [hF]
    rw [this]
    generalize cts (good h) ss = F at *
    generalize good h = g at *
    have hF' : F = [] := List.isEmpty_iff.mp hF
    subst hF'
    simp [F_harmful_holes, runF, d_harmful_holes, e1, e2]
  · have hn : needC (good h) ss = (good h).filter fun c => (cts (good h) ss).all fun p => decide (c ∈ p.2) := by
      unfold needC
      apply List.filter_congr
      intro c _
      simp [hF]
    rw [hn]
    generalize cts (good h) ss = F at *
    generalize good h = g at *
    have hF' : ¬ F = [] := fun z => hF (by rw [z]; rfl)
    simp [F_harmful_holes, runF, d_harmful_holes, e1, e2, hF']
    rw [lcF g enc enc (fun c => F.all fun p => decide (c ∈ p.2)) (by simp [e3]) (szl (by omega)) (fun c hc => by
      obtain ⟨k1, k2, k3⟩ := each c hc
      simp only [enc_pair, enc_nat] at k1
      rw [← k3]
      cases q : cts (Pc.good (holeH h c)) ss <;> rw [q] at k2 <;> simp at k2 <;> simp [k1, k2]) (by simp) (by simp)]
    simp
/-! ### the largest leaf -/
abbrev Bst := Nat × Option Size
def bstV (b : Bst) : Val := .tup [.int b.1, encO b.2]
def fitsL (g : List Cell) (s : Size) : Bool := g.any fun c => (cov s (c.1, c.2, false)).all fun x => decide (x ∈ g)
def bstS (g : List Cell) (b : Bst) (s : Size) : Bst := if fitsL g s && decide (b.1 < s.1 * s.2) then (s.1 * s.2, some s) else b
def sides : List Nat := [1, 2, 3, 4, 5]
def bestL (g : List Cell) : Bst := sides.foldl (fun b x => sides.foldl (fun b y => bstS g b (x, y)) b) (0, none)
theorem bst_scan (g gs : List Cell) (s : Size) (b : Bst) : gs.foldl (fun b c => if decide (b.1 < s.1 * s.2) && (cov s (c.1, c.2, false)).all (fun x => decide (x ∈ g)) then (s.1 * s.2, some s) else b) b = if (gs.any fun c => (cov s (c.1, c.2, false)).all fun x => decide (x ∈ g)) && decide (b.1 < s.1 * s.2) then (s.1 * s.2, some s) else b := by
  induction gs generalizing b with
  | nil => simp
  | cons c gs ih =>
    rw [List.foldl_cons, ih, List.any_cons]
    cases h1 : (cov s (c.1, c.2, false)).all (fun x => decide (x ∈ g)) with
    | false => simp only [Bool.and_false, Bool.false_eq_true, if_false, Bool.false_or]
    | true =>
      by_cases h2 : b.1 < s.1 * s.2
      · simp [h2]
      · simp [h2]
theorem bstS_eq (g : List Cell) (s : Size) (b : Bst) : g.foldl (fun b c => if decide (b.1 < s.1 * s.2) && (cov s (c.1, c.2, false)).all (fun x => decide (x ∈ g)) then (s.1 * s.2, some s) else b) b = bstS g b s := bst_scan g g s b
def largB : SD := (sSeq (sOwn (dCB F_cells_of_cut [(dTup [(dVar 1), (dVar 4)]), (dTup [(dVar 5), (dVar 6), (dC (.bl false))])]) 7)
    (sIf (dAndT (dTB (dBin oGt (dBin oMul (dVar 1) (dVar 4)) (dIxS 3 (dC (.int 0))))) (dTru (dCB (on1 oAll) [(dLc [8] (iVal (dVar 7)) (gN 8) dYes (dRS oIn (dVar 8) 2))]))) (sOwn (dTup [(dBin oMul (dVar 1) (dVar 4)), (dTup [(dVar 1), (dVar 4)])]) 3) sNil))
theorem largB_ok (g : List Cell) (v0 : Val) {x y : Nat} (hx : x ≤ 5) (hy : y ≤ 5) (b : Bst) (s5 s6 s7 : PV.Slot) : ∃ t5 t6 t7, forLoop (gT 2 (gsCons (gN 5) (gsCons (gN 6) gsNil))) largB (g.map enc) [.frz v0, .frz (.int x), .frz (.lst (g.map enc)), .frz (bstV b), .frz (.int y), s5, s6, s7, .emp] = .ok (.nx [.frz v0, .frz (.int x), .frz (.lst (g.map enc)), .frz (bstV (bstS g b (x, y))), .frz (.int y), t5, t6, t7, .emp]) := by
  obtain ⟨⟨a, c, d⟩, _, k⟩ := for_st (g := gT 2 (gsCons (gN 5) (gsCons (gN 6) gsNil))) (b := largB) (fun (b : Bst) (tl : PV.Slot × PV.Slot × PV.Slot) => [.frz v0, .frz (.int x), .frz (.lst (g.map enc)), .frz (bstV b), .frz (.int y), tl.1, tl.2.1, tl.2.2, .emp]) enc
    (fun b c => if decide (b.1 < x * y) && (cov (x, y) (c.1, c.2, false)).all (fun x => decide (x ∈ g)) then (x * y, some (x, y)) else b) (fun _ => True) g (fun c hc b tl _ => by
      have k1 := cells_of_cut_ok (s := (x, y)) (by simp; omega) (by simp; omega) (c.1, c.2, false)
      have k2 := cov_len (s := (x, y)) (by simp; omega) (by simp; omega) (c.1, c.2, false)
      generalize cov (x, y) (c.1, c.2, false) = cv at *
      simp [cutV] at k1
      have m := oMul_ii (x : Int) (y : Int) (mul_small (by omega))
      have ec : ((b.1 : Int) < (x : Int) * y) ↔ b.1 < x * y := by
        rw [← Int.natCast_mul]; omega
      unfold largB
      have step : ∀ bv, dLc [8] (iVal (dVar 7)) (gN 8) dYes (dRS oIn (dVar 8) 2) [.frz v0, .frz (.int x), .frz (.lst (g.map enc)), .frz bv, .frz (.int y), .frz (.int c.1), .frz (.int c.2), .frz (.lst (cv.map enc)), .emp] = .ok (.lst (cv.map fun x => .bl (decide (x ∈ g))), true, [.frz v0, .frz (.int x), .frz (.lst (g.map enc)), .frz bv, .frz (.int y), .frz (.int c.1), .frz (.int c.2), .frz (.lst (cv.map enc)), .emp]) := fun bv => by
        rw [lcM cv enc (fun x : Cell => .bl (decide (x ∈ g))) (by simp) (szl (by omega)) (fun x hx => by simp [in_g]) (by simp) (by simp)]
      by_cases h1 : b.1 < x * y
      · cases h2 : cv.all (fun x => decide (x ∈ g)) <;> simp [bstV, k1, m, ec, h1, h2, step, encO]
      · simp [bstV, k1, m, ec, h1])
    b (s5, s6, s7) trivial
  rw [bstS_eq g (x, y) b] at k
  exact ⟨a, c, d, k⟩
theorem range_sides : rangeV [.int 1, .int 6] = some (sides.map enc) := range_2 1 6 (by decide) (by decide)
theorem sides_le : ∀ x ∈ sides, x ≤ 5 := by decide
def largW : SD := (sFor (iRng [(dC (.int 1)), (dBin oAdd (dC (.int 5)) (dC (.int 1)))]) (gN 4) (sFor (iVal (dVar 2)) (gT 2 (gsCons (gN 5) (gsCons (gN 6) gsNil))) largB))
theorem largW_ok (g : List Cell) (v0 : Val) {x : Nat} (hx : x ≤ 5) (b : Bst) (s4 s5 s6 s7 : PV.Slot) : ∃ t4 t5 t6 t7, largW [.frz v0, .frz (.int x), .frz (.lst (g.map enc)), .frz (bstV b), s4, s5, s6, s7, .emp] = .ok (.nx [.frz v0, .frz (.int x), .frz (.lst (g.map enc)), .frz (bstV (sides.foldl (fun b y => bstS g b (x, y)) b)), t4, t5, t6, t7, .emp]) := by
  obtain ⟨⟨a, c, d, f⟩, _, k⟩ := for_st (g := gN 4) (b := (sFor (iVal (dVar 2)) (gT 2 (gsCons (gN 5) (gsCons (gN 6) gsNil))) largB)) (fun (b : Bst) (tl : PV.Slot × PV.Slot × PV.Slot × PV.Slot) => [.frz v0, .frz (.int x), .frz (.lst (g.map enc)), .frz (bstV b), tl.1, tl.2.1, tl.2.2.1, tl.2.2.2, .emp]) enc
    (fun b y => bstS g b (x, y)) (fun _ => True) sides (fun y hy b tl _ => by
      obtain ⟨t5, t6, t7, k⟩ := largB_ok g v0 hx (sides_le y hy) b tl.2.1 tl.2.2.1 tl.2.2.2
      simp [k]) b (s4, s5, s6, s7) trivial
  have r := range_sides
  refine ⟨a, c, d, f, ?_⟩
  unfold largW
  simp [r, k]
theorem largest_leaf_ok {h : Hide} (H : HdOk h) : F_largest_leaf [hideV h] = .ok (bstV (bestL (good h)), false) := by
  have e1 := check_hide_ok H
  have e2 := raw_good_ok H
  unfold bestL
  generalize good h = g at *
  obtain ⟨⟨a, c, d, f, q⟩, _, k⟩ := for_st (g := gN 1) (b := largW) (fun (b : Bst) (tl : PV.Slot × PV.Slot × PV.Slot × PV.Slot × PV.Slot) => [.frz (hideV h), tl.1, .frz (.lst (g.map enc)), .frz (bstV b), tl.2.1, tl.2.2.1, tl.2.2.2.1, tl.2.2.2.2, .emp]) enc
    (fun b x => sides.foldl (fun b y => bstS g b (x, y)) b) (fun _ => True) sides (fun x hx b tl _ => by
      obtain ⟨t4, t5, t6, t7, k⟩ := largW_ok g (hideV h) (sides_le x hx) b tl.2.1 tl.2.2.1 tl.2.2.2.1 tl.2.2.2.2
      simp [k]) (0, none) (.emp, .emp, .emp, .emp, .emp) trivial
  have hd : d_largest_leaf = sSeq (sExpr (dCB F_check_hide [(dVar 0)])) (sSeq (sParO [2, 3] [(dCB F_raw_good [(dVar 0)]), (dTup [(dC (.int 0)), (dC .non)])]) (sSeq (sFor (iRng [(dC (.int 1)), (dBin oAdd (dC (.int 5)) (dC (.int 1)))]) (gN 1) largW) (sRet (dVar 3)))) := rfl
  have r := range_sides
  unfold F_largest_leaf runF
  rw [hd]
  have h0 : bstV (0, none) = .tup [.int 0, .non] := rfl
  rw [h0] at k
  simp [e1, e2, r, k]
theorem bst_0 (b : Bst) : oIx (bstV b) (.int 0) = .ok (.int b.1, false) := rfl
theorem bst_s (n x y : Nat) : bstV (n, some (x, y)) = .tup [.int n, .tup [.int x, .int y]] := rfl
def lgstB : SD := (sSeq (sOwn (dCB (on1 oAny) [(dLc [6, 7] (iVal (dVar 2)) (gT 2 (gsCons (gN 6) (gsCons (gN 7) gsNil))) dYes (dCB (on1 oAll) [(dLc [8] (iVal (dCB F__law_covered [(dTup [(dVar 6), (dVar 7), (dC (.bl false))]), (dTup [(dVar 1), (dVar 4)])])) (gN 8) dYes (dRS oIn (dVar 8) 2))]))]) 5)
    (sOwn (dIf (dAndT (dTruS 5) (dTB (dBin oGt (dBin oMul (dVar 1) (dVar 4)) (dIxS 3 (dC (.int 0)))))) (dTup [(dBin oMul (dVar 1) (dVar 4)), (dTup [(dVar 1), (dVar 4)])]) (dVar 3)) 3))
theorem lgstB_ok (g : List Cell) (hg : g.length ≤ 25) (v0 : Val) {x y : Nat} (hx : x ≤ 5) (hy : y ≤ 5) (b : Bst) (s5 : PV.Slot) : ∃ t5, lgstB [.frz v0, .frz (.int x), .frz (.lst (g.map enc)), .frz (bstV b), .frz (.int y), s5, .emp, .emp, .emp] = .ok (.nx [.frz v0, .frz (.int x), .frz (.lst (g.map enc)), .frz (bstV (bstS g b (x, y))), .frz (.int y), t5, .emp, .emp, .emp]) := by
  refine ⟨.frz (.bl (fitsL g (x, y))), ?_⟩
  have m := oMul_ii (x : Int) (y : Int) (mul_small (by omega))
  have ec : ((b.1 : Int) < (x : Int) * y) ↔ b.1 < x * y := by
    rw [← Int.natCast_mul]; omega
  have step : dLc [6, 7] (iVal (dVar 2)) (gT 2 (gsCons (gN 6) (gsCons (gN 7) gsNil))) dYes (dCB (on1 oAll) [(dLc [8] (iVal (dCB F__law_covered [(dTup [(dVar 6), (dVar 7), (dC (.bl false))]), (dTup [(dVar 1), (dVar 4)])])) (gN 8) dYes (dRS oIn (dVar 8) 2))]) [.frz v0, .frz (.int x), .frz (.lst (g.map enc)), .frz (bstV b), .frz (.int y), s5, .emp, .emp, .emp] = .ok (.lst (g.map fun c => .bl ((cov (x, y) (c.1, c.2, false)).all fun x => decide (x ∈ g))), true, [.frz v0, .frz (.int x), .frz (.lst (g.map enc)), .frz (bstV b), .frz (.int y), s5, .emp, .emp, .emp]) := by
    rw [lcM g enc (fun c : Cell => .bl ((cov (x, y) (c.1, c.2, false)).all fun x => decide (x ∈ g))) (by simp) (szl (by omega)) (fun c hc => by
      have k1 := law_covered_ok (s := (x, y)) (by simp; omega) (by simp; omega) (c.1, c.2, false)
      have k2 := cov_len (s := (x, y)) (by simp; omega) (by simp; omega) (c.1, c.2, false)
      generalize cov (x, y) (c.1, c.2, false) = cv at *
      simp [cutV] at k1
      simp
      rw [lcM cv enc (fun x : Cell => .bl (decide (x ∈ g))) (by simp [k1]) (szl (by omega)) (fun x hx => by simp [in_g]) (by simp) (by simp)]
      simp) (by simp) (by simp)]
  have hf : fitsL g (x, y) = g.any fun c => (cov (x, y) (c.1, c.2, false)).all fun x => decide (x ∈ g) := rfl
  unfold bstS
  generalize fitsL g (x, y) = ft at *
  have ho := oAny_f g (fun c => (cov (x, y) (c.1, c.2, false)).all fun x => decide (x ∈ g))
  rw [← hf] at ho
  generalize (g.map fun c => Val.bl ((cov (x, y) (c.1, c.2, false)).all fun x => decide (x ∈ g))) = L at *
  unfold lgstB
  by_cases h1 : b.1 < x * y
  · cases ft <;> simp [step, ho, bst_0, bst_s, m, ec, h1]
  · cases ft <;> simp [step, ho, bst_0, bst_s, m, ec, h1]
def lgstW : SD := (sFor (iRng [(dC (.int 1)), (dC (.int 6))]) (gN 4) lgstB)
theorem lgstW_ok (g : List Cell) (hg : g.length ≤ 25) (v0 : Val) {x : Nat} (hx : x ≤ 5) (b : Bst) (s4 s5 : PV.Slot) : ∃ t4 t5, lgstW [.frz v0, .frz (.int x), .frz (.lst (g.map enc)), .frz (bstV b), s4, s5, .emp, .emp, .emp] = .ok (.nx [.frz v0, .frz (.int x), .frz (.lst (g.map enc)), .frz (bstV (sides.foldl (fun b y => bstS g b (x, y)) b)), t4, t5, .emp, .emp, .emp]) := by
  obtain ⟨⟨a, c⟩, _, k⟩ := for_st (g := gN 4) (b := lgstB) (fun (b : Bst) (tl : PV.Slot × PV.Slot) => [.frz v0, .frz (.int x), .frz (.lst (g.map enc)), .frz (bstV b), tl.1, tl.2, .emp, .emp, .emp]) enc
    (fun b y => bstS g b (x, y)) (fun _ => True) sides (fun y hy b tl _ => by
      obtain ⟨t5, k⟩ := lgstB_ok g hg v0 hx (sides_le y hy) b tl.2
      simp [k]) b (s4, s5) trivial
  have r := range_sides
  refine ⟨a, c, ?_⟩
  unfold lgstW
  simp [r, k]
theorem law_largest_ok {h : Hide} (H : HdOk h) : F__law_largest [hideV h] = .ok (bstV (bestL (good h)), false) := by
  have e2 := law_cells_ok H
  have hg := good_len H
  unfold bestL
  generalize good h = g at *
  obtain ⟨⟨a, c, d⟩, _, k⟩ := for_st (g := gN 1) (b := lgstW) (fun (b : Bst) (tl : PV.Slot × PV.Slot × PV.Slot) => [.frz (hideV h), tl.1, .frz (.lst (g.map enc)), .frz (bstV b), tl.2.1, tl.2.2, .emp, .emp, .emp]) enc
    (fun b x => sides.foldl (fun b y => bstS g b (x, y)) b) (fun _ => True) sides (fun x hx b tl _ => by
      obtain ⟨t4, t5, k⟩ := lgstW_ok g hg (hideV h) (sides_le x hx) b tl.2.1 tl.2.2
      simp [k]) (0, none) (.emp, .emp, .emp) trivial
  have hd : d__law_largest = sSeq (sParO [2, 3] [(dCB F__law_cells [(dVar 0)]), (dTup [(dC (.int 0)), (dC .non)])]) (sSeq (sFor (iRng [(dC (.int 1)), (dC (.int 6))]) (gN 1) lgstW) (sRet (dVar 3))) := rfl
  have r := range_sides
  unfold F__law_largest runF
  rw [hd]
  have h0 : bstV (0, none) = .tup [.int 0, .non] := rfl
  rw [h0] at k
  simp [e2, r, k]
end Pc

namespace Pc
open PySem PySem.Spec PyProof.Rows L2 PV Sh
open EV (enc)
open PH (szl)
theorem law_lots_ok (n : Nat) (hl : n ≤ 8) : F__law_lots [.int n] = .ok (.lst ((lotsL (List.range n)).map enc), true) := by
  have r1 := range_1 n (by omega)
  have key := for_inv (g := gN 2) (b := (sOwn (dBin oAdd (dVar 1) (dLc [4] (iVal (dVar 1)) (gN 4) dYes (dBin oAdd (dVar 4) (dTup [(dVar 2)])))) 1)) (Q := fun r => ∃ t2, r = .nx [.frz (.int n), .own (.lst ((subs (List.range n)).map enc)), t2, .emp, .emp]) ((List.range n).map enc)
    (fun i env => ∃ t2, env = [.frz (.int n), .own (.lst ((subs ((List.range n).take i)).map enc)), t2, .emp, .emp]) [.frz (.int n), .own (.lst [.tup []]), .emp, .emp, .emp] ⟨.emp, by simp [subs]⟩ ?_ ?_
  · obtain ⟨r, k, t2, rfl⟩ := key.ex
    have hn := subs_len (List.range n).length (List.range n) rfl
    have hn2 : 2 ^ (List.range n).length ≤ 256 := Nat.le_trans (Nat.pow_le_pow_right (by decide) (by simpa using hl)) (by decide)
    unfold lotsL
    have hs := oSorted_p ((subs (List.range n)).map fun l => (l.length, l)) (by decide)
    rw [show (((subs (List.range n)).map fun l => (l.length, l)).mergeSort fun a b => !OV.lt b a) = sortL ((subs (List.range n)).map fun l => (l.length, l)) from rfl] at hs
    have hsl : (sortL ((subs (List.range n)).map fun l => (l.length, l))).length ≤ 256 := by rw [(sortL_perm _).length_eq, List.length_map]; omega
    simp [F__law_lots, runF, d__law_lots, r1, k]
    generalize subs (List.range n) = ss at *
    generalize sortL (ss.map fun l => (l.length, l)) = st at *
    have s1 : dLc [4] (iVal (dVar 1)) (gN 4) dYes (dTup [(dCBS oLen 4), (dVar 4)]) [.frz (.int n), .own (.lst (ss.map enc)), t2, .emp, .emp] = .ok (.lst (ss.map fun l => .tup [.int l.length, enc l]), true, [.frz (.int n), .frz (.lst (ss.map enc)), t2, .emp, .emp]) := by
      rw [lc_map (env1 := [.frz (.int n), .frz (.lst (ss.map enc)), t2, .emp, .emp]) ss enc (fun l => .tup [.int l.length, enc l]) (by simp) (by simp) (szl (by omega)) (fun l hl => by simp) (by simp)]
    simp [Function.comp_def] at hs s1
    rw [lc_map (env1 := [.frz (.int n), .frz (.lst (ss.map enc)), t2, .emp, .emp]) st (fun p => .tup [.int p.1, .tup (p.2.map enc)]) (fun p => enc p.2) (by simp [hs, s1, Function.comp_def]) (by simp) (szl (by omega)) (fun p hp => by simp) (by simp)]
    simp [Function.comp_def]
  · rintro i hi env ⟨t2, rfl⟩
    have hi' : i < (List.range n).length := by simpa using hi
    rw [List.getElem_map, List.take_add_one, List.getElem?_eq_getElem hi']
    simp only [Option.toList_some]
    rw [subs_snoc]
    have hn := subs_len ((List.range n).take i).length ((List.range n).take i) rfl
    have hn2 : 2 ^ ((List.range n).take i).length ≤ 256 := Nat.le_trans (Nat.pow_le_pow_right (by decide) (show ((List.range n).take i).length ≤ 8 by rw [List.length_take]; simp at hi'; omega)) (by decide)
    have he := subs_each ((List.range n).take i).length ((List.range n).take i) rfl
    have hi8 : ((List.range n).take i).length ≤ 8 := by rw [List.length_take]; simp at hi'; omega
    generalize subs ((List.range n).take i) = ss at *
    generalize ((List.range n).take i).length = m at *
    generalize (List.range n)[i] = x at *
    have s1 : dLc [4] (iVal (dVar 1)) (gN 4) dYes (dBin oAdd (dVar 4) (dTup [(dVar 2)])) [.frz (.int n), .frz (.lst (ss.map enc)), .frz (.int x), .emp, .emp] = .ok (.lst (ss.map fun l => .tup ((l ++ [x]).map enc)), true, [.frz (.int n), .frz (.lst (ss.map enc)), .frz (.int x), .emp, .emp]) := by
      rw [lcM ss enc (fun l => .tup ((l ++ [x]).map enc)) (by simp) (szl (by omega)) (fun l hl => by
        have := oAdd_tt (l.map enc) [.int x] (szl (by have := (he l hl).1; simp; omega))
        simp [this]) (by simp) (by simp)]
    have := oAdd_ll (ss.map enc) (ss.map fun l => .tup ((l ++ [x]).map enc)) (szl (by simp; omega))
    simp at this s1
    simp [this, s1, Function.comp_def]
  · rintro env ⟨t2, rfl⟩
    exact ⟨t2, by simp⟩
theorem lots_pw (n : Nat) : List.Pairwise (fun a b : List Nat => a.length ≤ b.length ∧ (a.length = b.length → OV.lt b a = false)) (lotsL (List.range n)) := by
  unfold lotsL
  have h1 := sortL_sorted ((subs (List.range n)).map fun l => (l.length, l))
  have h2 : ∀ p ∈ sortL ((subs (List.range n)).map fun l => (l.length, l)), p.1 = p.2.length := fun p hp => by
    have := (sortL_perm _).mem_iff.mp hp
    obtain ⟨l, _, rfl⟩ := List.mem_map.mp this
    rfl
  generalize sortL ((subs (List.range n)).map fun l => (l.length, l)) = st at *
  rw [List.pairwise_map]
  refine h1.imp_of_mem fun {p q} hp hq h => ?_
  have e1 := h2 p hp
  have e2 := h2 q hq
  have h : (if q.1 = p.1 then OV.lt q.2 p.2 else OV.lt q.1 p.1) = false := h
  rw [e1, e2] at h
  by_cases c : q.2.length = p.2.length
  · rw [if_pos c] at h
    exact ⟨by omega, fun _ => h⟩
  · rw [if_neg c] at h
    have : ¬ q.2.length < p.2.length := of_decide_eq_false h
    exact ⟨by omega, fun z => absurd z.symm c⟩
theorem lots_nil (n : Nat) : [] ∈ lotsL (List.range n) := by
  unfold lotsL
  rw [List.mem_map]
  refine ⟨(0, []), (sortL_perm _).mem_iff.mpr (List.mem_map.mpr ⟨[], ?_, rfl⟩), rfl⟩
  have : ∀ (n : Nat) (xs : List Nat), xs.length = n → [] ∈ subs xs := fun n => by
    induction n with
    | zero => intro xs h; rw [List.length_eq_zero_iff.mp h]; simp [subs]
    | succ n ih =>
      intro xs h
      have hne : xs ≠ [] := by intro z; subst z; simp at h
      rw [(List.dropLast_concat_getLast hne).symm, subs_snoc]
      exact List.mem_append_left _ (ih _ (by simp; omega))
  exact this _ _ rfl
theorem lots_mem {n : Nat} {l : List Nat} (h : l ∈ lotsL (List.range n)) : l.length ≤ n ∧ ∀ x ∈ l, x < n := by
  unfold lotsL at h
  obtain ⟨p, hp, rfl⟩ := List.mem_map.mp h
  have := (sortL_perm _).mem_iff.mp hp
  obtain ⟨m, hm, rfl⟩ := List.mem_map.mp this
  have := subs_each (List.range n).length _ rfl m hm
  simp at this
  exact this
theorem lots_len {n : Nat} (h : n ≤ 8) : (lotsL (List.range n)).length ≤ 256 := by
  unfold lotsL
  rw [List.length_map, (sortL_perm _).length_eq, List.length_map, subs_len n _ (by simp)]
  exact Nat.le_trans (Nat.pow_le_pow_right (by decide) h) (by decide)
end Pc

namespace Pc
open PySem PySem.Spec PyProof.Rows L2 PV Sh
open EV (enc)
open PH (szl)
/-- sizes of a lot -/
def pick (ss : List Size) (l : List Nat) : List Size := l.map fun a => ss.getD a (1, 1)
theorem pick_ok {ss : List Size} (S : SzsOk ss) {l : List Nat} (hl : l.length ≤ 3 ∧ ∀ x ∈ l, x < ss.length) : SzsOk (pick ss l) := by
  refine ⟨by unfold pick; rw [List.length_map]; exact hl.1, fun s hs => ?_⟩
  unfold pick at hs
  obtain ⟨a, ha, rfl⟩ := List.mem_map.mp hs
  have := hl.2 a ha
  rw [List.getD_eq_getElem?_getD, List.getElem?_eq_getElem this]
  exact S.all _ (List.getElem_mem _)
theorem pick_at {ss : List Size} {a : Nat} (h : a < ss.length) : oIx (.tup (ss.map enc)) (.int (a : Int)) = .ok (enc (ss.getD a (1, 1)), false) := oIx_t _ _ (by
  rw [atI_map, atI_nat' h, List.getD_eq_getElem?_getD, List.getElem?_eq_getElem h]; rfl)
def canL (g : List Cell) (ss : List Size) : List (List Nat) := (lotsL (List.range ss.length)).filter fun l => !(cts g (pick ss l)).isEmpty
def mostL (L : List (List Nat)) : Nat := (L.getLastD []).length
theorem getLast_max {L : List (List Nat)} (hp : List.Pairwise (fun a b : List Nat => a.length ≤ b.length ∧ (a.length = b.length → OV.lt b a = false)) L) (hne : L ≠ []) : maxL (L.map List.length) = some (mostL L) := by
  rw [maxL_some]
  obtain ⟨xs, x, rfl⟩ : ∃ xs x, L = xs ++ [x] := ⟨L.dropLast, L.getLast hne, (List.dropLast_concat_getLast hne).symm⟩
  have e : mostL (xs ++ [x]) = x.length := by simp [mostL, List.getLastD_eq_getLast?]
  rw [e]
  refine ⟨by simp, fun y hy => ?_⟩
  obtain ⟨z, hz, rfl⟩ := List.mem_map.mp hy
  rw [List.pairwise_append] at hp
  apply decide_eq_false
  rcases List.mem_append.mp hz with hz | hz
  · have := (hp.2.2 z hz x (by simp)).1; omega
  · rw [List.mem_singleton.mp hz]; omega
theorem head_min {L : List (List Nat)} (hp : List.Pairwise (fun a b : List Nat => a.length ≤ b.length ∧ (a.length = b.length → OV.lt b a = false)) L) {m : Nat} {x : List Nat} {xs : List (List Nat)} (e : L.filter (fun l => decide (l.length = m)) = x :: xs) : minL (x :: xs) = some x := by
  rw [minL_some]
  refine ⟨by simp, fun y hy => ?_⟩
  have hp2 := hp.filter (fun l => decide (l.length = m))
  rw [e] at hp2
  have hm : ∀ z ∈ x :: xs, z.length = m := fun z hz => by
    rw [← e] at hz
    simpa using (List.mem_filter.mp hz).2
  rcases List.mem_cons.mp hy with rfl | hy
  · exact OV.irr _
  · rw [List.pairwise_cons] at hp2
    exact (hp2.1 y hy).2 (by rw [hm x (by simp), hm y (by simp [hy])])
theorem canL_ne (g : List Cell) (ss : List Size) : canL g ss ≠ [] := by
  have : [] ∈ canL g ss := List.mem_filter.mpr ⟨lots_nil _, by simp [pick, cts]⟩
  intro z; rw [z] at this; cases this
theorem canL_pw (g : List Cell) (ss : List Size) : List.Pairwise (fun a b : List Nat => a.length ≤ b.length ∧ (a.length = b.length → OV.lt b a = false)) (canL g ss) := (lots_pw _).filter _
/-- the answer -/
def bestLot (L : List (List Nat)) : List Nat := (L.filter fun l => decide (l.length = mostL L)).headD []
theorem best_has {L : List (List Nat)} (hne : L ≠ []) : ∃ xs, L.filter (fun l => decide (l.length = mostL L)) = bestLot L :: xs := by
  obtain ⟨xs, x, rfl⟩ : ∃ xs x, L = xs ++ [x] := ⟨L.dropLast, L.getLast hne, (List.dropLast_concat_getLast hne).symm⟩
  have e : mostL (xs ++ [x]) = x.length := by simp [mostL, List.getLastD_eq_getLast?]
  unfold bestLot
  cases q : (xs ++ [x]).filter (fun l => decide (l.length = mostL (xs ++ [x]))) with
  | nil =>
    rw [List.filter_eq_nil_iff] at q
    exact absurd (by rw [e]; simp) (q x (by simp))
  | cons y ys => exact ⟨ys, rfl⟩
theorem all_lots_n (n : Nat) (h : n ≤ 8) : F_all_lots [.lst ((List.range n).map enc)] = .ok (.lst ((lotsL (List.range n)).map enc), true) := all_lots_ok (List.range n) (by simpa using h) (by decide) _ rfl
theorem most_cut_ok {h : Hide} (H : HdOk h) {ss : List Size} (S : SzsOk ss) (h1 : 1 ≤ ss.length) : F_most_cut [hideV h, .tup (ss.map enc)] = .ok (.tup [.int (mostL (canL (good h) ss)), enc (bestLot (canL (good h) ss))], false) := by
  have e1 := check_sizes_ok H S h1
  have hf := S.few
  have e2 := all_lots_n ss.length (by omega)
  have ll := lots_len (n := ss.length) (by omega)
  have hL := canL_ne (good h) ss
  have hm := getLast_max (canL_pw (good h) ss) hL
  obtain ⟨xs, hb⟩ := best_has hL
  have hmin := head_min (canL_pw (good h) ss) hb
  have each : ∀ l ∈ lotsL (List.range ss.length), F_hide_cuts [hideV h, .lst ((pick ss l).map enc)] = .ok (.lst ((cts (good h) (pick ss l)).map layV), false) := fun l hl => by
    have := lots_mem hl
    exact hide_cuts_ok H (pick_ok S ⟨by omega, this.2⟩) _ rfl
  have hmem : ∀ l ∈ lotsL (List.range ss.length), l.length ≤ ss.length ∧ ∀ x ∈ l, x < ss.length := fun l hl => lots_mem hl
  have hlen : (canL (good h) ss).length ≤ 256 := Nat.le_trans (List.length_filter_le _ _) ll
  have er : ∃ z, oRange1 (.int (ss.length : Int)) = .ok z ∧ oList z.1 = .ok (.lst ((List.range ss.length).map enc), true) := by
    refine ⟨_, rfl, ?_⟩
    have u := upto_nat 0 ss.length
    rw [← List.range_eq_range'] at u
    show (if rgOk 0 && rgOk (ss.length : Int) && decide (((ss.length : Int) - 0).toNat ≤ 1000000) then _ else _) = _
    rw [if_pos (by rw [rg_nat (n := ss.length) (by omega), show rgOk 0 = true from rfl, decide_eq_true (by omega)]; rfl)]
    have e : ((ss.length : Int) - 0).toNat = ss.length := by omega
    rw [e]
    simp at u
    rw [u]
  obtain ⟨zr, er1, er2⟩ := er
  have hdef : canL (good h) ss = (lotsL (List.range ss.length)).filter fun l => !(cts (good h) (pick ss l)).isEmpty := rfl
  have step : dLc [4] (iVal (dCB F_all_lots [(dCB (on1 oList) [(dCB (on1 oRange1) [(dCBS oLen 1)])])])) (gN 4) (dTru (dCB F_hide_cuts [(dVar 0), (dLc [5] (iVal (dVar 4)) (gN 5) dYes (dIxS 1 (dVar 5)))])) (dVar 4) [.frz (hideV h), .frz (.tup (ss.map enc)), .emp, .emp, .emp, .emp] = .ok (.lst ((canL (good h) ss).map enc), true, [.frz (hideV h), .frz (.tup (ss.map enc)), .emp, .emp, .emp, .emp]) := by
    rw [hdef]
    generalize lotsL (List.range ss.length) = lots at *
    rw [lcF lots enc enc (fun l => !(cts (good h) (pick ss l)).isEmpty) (by simp [er1, er2, e2]) (szl (by omega)) (fun l hl => by
      have k := each l hl
      have km := hmem l hl
      have s1 : dLc [5] (iVal (dVar 4)) (gN 5) dYes (dIxS 1 (dVar 5)) [.frz (hideV h), .frz (.tup (ss.map enc)), .emp, .emp, .frz (.tup (l.map enc)), .emp] = .ok (.lst ((pick ss l).map enc), true, [.frz (hideV h), .frz (.tup (ss.map enc)), .emp, .emp, .frz (.tup (l.map enc)), .emp]) := by
        rw [lcM l enc (fun a => enc (ss.getD a (1, 1))) (by simp) (szl (by omega)) (fun a ha => by
          have := pick_at (km.2 a ha)
          simp only [enc_pair, enc_nat] at this
          simp [this]) (by simp) (by simp)]
        simp [pick, Function.comp_def]
      cases q : cts (good h) (pick ss l) <;> rw [q] at k <;> simp at k <;> simp [s1, k]) (by simp) (by simp)]
  generalize canL (good h) ss = L at *
  generalize mostL L = m at *
  generalize bestLot L = bl at *
  have e5 := max_map _ (by decide) _ hm
  have e6 := min_map _ (by decide) _ hmin
  simp at step e5 e6
  simp [F_most_cut, runF, d_most_cut, e1, step]
  rw [lc_map (env1 := [.frz (hideV h), .frz (.tup (ss.map enc)), .frz (.lst (L.map enc)), .emp, .emp, .emp]) L enc (fun l => .int l.length) (by simp) (by simp) (szl (by omega)) (fun l hl => by simp) (by simp)]
  have e5' : oBest maxV (.lst (L.map fun l => .int (l.length : Int))) = .ok (.int m, false) := by
    rw [← e5]; rfl
  simp [e5']
  rw [lcF L enc enc (fun l => decide (l.length = m)) (by simp) (szl (by omega)) (fun l hl => by
    by_cases c : l.length = m
    · simp [c]
    · have c' : ¬ ((l.length : Int) = m) := by omega
      simp [c, c']) (by simp) (by simp)]
  simp [hb, e6]
end Pc

namespace Pc
open PySem PySem.Spec PyProof.Rows L2 PV Sh
open EV (enc)
open PH (szl GH kH runH_k seq_ok)
def Sgn (l : List Nat) : Prop := ∀ c ∈ l, c = 46 ∨ c = 35
theorem hide_row {h : Val} (g : GH h) {wide share : Nat} (hw : wide ≤ 5) (hs : 0 < share) (hs2 : share < 1000) (v1 v2 : Val) (s3 s4 : PV.Slot) : ∃ (l : List Nat) (h' : Val), l.length = wide ∧ Sgn l ∧ GH h' ∧
    dLc [7] (iRng [(dVar 5)]) (gN 7) dYes (dIf (dTB (dBin oEq (dCallH F__law_draw 0 [(dVar 6)]) (dC (.int 0)))) (dC (.str "#")) (dC (.str "."))) [.own h, .frz v1, .frz v2, s3, s4, .frz (.int wide), .frz (.int share), .emp] =
      .ok (.lst (l.map fun c => tx [c]), true, [.own h', .frz v1, .frz v2, s3, s4, .frz (.int wide), .frz (.int share), .emp]) := by
  have r1 := range_1 wide (by omega)
  have key := lc_inv (own := [7]) (it := iRng [(dVar 5)]) (g := gN 7) (t := dYes) (elt := (dIf (dTB (dBin oEq (dCallH F__law_draw 0 [(dVar 6)]) (dC (.int 0)))) (dC (.str "#")) (dC (.str ".")))) (env := [.own h, .frz v1, .frz v2, s3, s4, .frz (.int wide), .frz (.int share), .emp]) (env1 := [.own h, .frz v1, .frz v2, s3, s4, .frz (.int wide), .frz (.int share), .emp]) (vs := (List.range wide).map enc)
    (Q := fun r => ∃ (l : List Nat) (h' : Val), l.length = wide ∧ Sgn l ∧ GH h' ∧ r = (.lst (l.map fun c => tx [c]), true, [.own h', .frz v1, .frz v2, s3, s4, .frz (.int wide), .frz (.int share), .emp]))
    (fun i acc env => ∃ (l : List Nat) (h' : Val), acc = l.map (fun c => tx [c]) ∧ l.length = i ∧ Sgn l ∧ GH h' ∧ env = [.own h', .frz v1, .frz v2, s3, s4, .frz (.int wide), .frz (.int share), .emp])
    (by simp [r1]) (by simp) (szl (by simp; omega)) ⟨[], h, rfl, rfl, fun _ h => (nomatch h), g, rfl⟩ ?_ ?_
  · obtain ⟨r, k, l, h', e1, e2, e3, rfl⟩ := key.ex
    exact ⟨l, h', e1, e2, e3, k⟩
  · rintro i hi acc env ⟨l, h', rfl, e1, e2, e3, rfl⟩
    obtain ⟨d, h2, k, k2, k3⟩ := drawI e3 (many := share) (by omega) (by omega)
    have sg : ∀ z, (z = 46 ∨ z = 35) → Sgn (l ++ [z]) := fun z hz x hx => by
      rcases List.mem_append.mp hx with hx | hx
      · exact e2 x hx
      · rw [List.mem_singleton.mp hx]; exact hz
    by_cases c : d = 0
    · simp [k, c]
      exact ⟨l ++ [35], by simp, by simp [e1], sg 35 (.inr rfl), k3⟩
    · simp [k, c]
      exact ⟨l ++ [46], by simp, by simp [e1], sg 46 (.inl rfl), k3⟩
  · rintro acc env ⟨l, h', rfl, e1, e2, e3, rfl⟩
    exact ⟨l, h', by simpa using e1, e2, e3, by simp⟩
theorem law_hide_ok {h : Val} (g : GH h) {most : Nat} (m1 : 1 ≤ most) (m2 : most ≤ 5) : ∃ (hd : Hide) (h' : Val), F__law_hide h [.int most] = .ok (hideV hd, h') ∧ HdOk hd ∧ hd.length ≤ most ∧ (∀ r ∈ hd, r.length ≤ most) ∧ GH h' := by
  obtain ⟨d1, h1, a1, b1, c1⟩ := drawI g (many := most) (by omega) (by omega)
  obtain ⟨d2, h2, a2, b2, c2⟩ := drawI c1 (many := most) (by omega) (by omega)
  obtain ⟨sh, h3, a3, b3, c3⟩ := law_some_l c2 enc [3, 6, 40] (by simp) (by decide)
  have hsh : 0 < sh ∧ sh < 1000 := by
    have : sh = 3 ∨ sh = 6 ∨ sh = 40 := by simpa using b3
    omega
  have r1 := range_1 (1 + d1) (by omega)
  have key := for_inv (g := gN 3) (b := (sOwn (dBin oAdd (dVar 2) (dTup [(dSM oJoin (dC (.str "")) (dLc [7] (iRng [(dVar 5)]) (gN 7) dYes (dIf (dTB (dBin oEq (dCallH F__law_draw 0 [(dVar 6)]) (dC (.int 0)))) (dC (.str "#")) (dC (.str ".")))))])) 2))
    (Q := fun r => ∃ (hd : Hide) (h' : Val) (s3 : PV.Slot), r = .nx [.own h', .frz (.int most), .frz (hideV hd), s3, .frz (.int (1 + d1 : Nat)), .frz (.int (1 + d2 : Nat)), .frz (.int sh), .emp] ∧ hd.length = 1 + d1 ∧ (∀ r ∈ hd, r.length = 1 + d2 ∧ Sgn r) ∧ GH h') ((List.range (1 + d1)).map enc)
    (fun i env => ∃ (hd : Hide) (h' : Val) (s3 : PV.Slot), env = [.own h', .frz (.int most), .frz (hideV hd), s3, .frz (.int (1 + d1 : Nat)), .frz (.int (1 + d2 : Nat)), .frz (.int sh), .emp] ∧ hd.length = i ∧ (∀ r ∈ hd, r.length = 1 + d2 ∧ Sgn r) ∧ GH h')
    [.own h3, .frz (.int most), .frz (.tup []), .emp, .frz (.int (1 + d1 : Nat)), .frz (.int (1 + d2 : Nat)), .frz (.int sh), .emp] ⟨[], h3, .emp, rfl, rfl, fun _ h => (nomatch h), c3⟩ ?_ ?_
  · obtain ⟨r, k, hd, h', s3, rfl, e1, e2, e3⟩ := key.ex
    refine ⟨hd, h', ?_, ⟨by omega, by omega, ⟨1 + d2, by omega, by omega, fun r hr => (e2 r hr).1⟩, fun r hr => (e2 r hr).2⟩, by omega, fun r hr => by have := (e2 r hr).1; omega, e3⟩
    simp at a3 k r1
    simp [F__law_hide, runH, d__law_hide, a1, a2, a3, r1, k]
  · rintro i hi env ⟨hd, h', s3, rfl, e1, e2, e3⟩
    rw [List.getElem_map]
    have hi' : i < 1 + d1 := by simpa using hi
    generalize (List.range (1 + d1))[i]'(by simpa using hi') = j
    obtain ⟨l, h4, f1, f2, f3, k⟩ := hide_row e3 (wide := 1 + d2) (by omega) hsh.1 hsh.2 (.int most) (hideV hd) (.frz (enc j)) (.frz (.int (1 + d1 : Nat)))
    have j1 := oJoinL_1 l id (by omega)
    have a4 := oAdd_tt (hd.map tx) [tx l] (szl (by simp; omega))
    simp at k j1 a4
    simp [hideV] at k ⊢
    simp [k, j1, a4]
    refine ⟨hd ++ [l], h4, ⟨rfl, by simp⟩, by simp [e1], fun r hr => ?_, f3⟩
    rcases List.mem_append.mp hr with hr | hr
    · exact e2 r hr
    · rw [List.mem_singleton.mp hr]; exact ⟨f1, f2⟩
  · rintro env ⟨hd, h', s3, rfl, e1, e2, e3⟩
    exact ⟨hd, h', s3, rfl, by simpa using e1, e2, e3⟩
theorem law_sizes_ok {h : Val} (g : GH h) : ∃ (ss : List Size) (h' : Val), F__law_sizes h [] = .ok (.tup (ss.map enc), h') ∧ SzsOk ss ∧ 1 ≤ ss.length ∧ GH h' := by
  obtain ⟨d1, h1, a1, b1, c1⟩ := drawI g (many := 3) (by omega) (by omega)
  have r1 := range_1 (1 + d1) (by omega)
  have key := for_inv (g := gN 2) (b := (sOwn (dBin oAdd (dVar 1) (dTup [(dTup [(dBin oAdd (dC (.int 1)) (dCallH F__law_draw 0 [(dC (.int 2))])), (dBin oAdd (dC (.int 1)) (dCallH F__law_draw 0 [(dC (.int 3))]))])])) 1))
    (Q := fun r => ∃ (ss : List Size) (h' : Val) (s2 : PV.Slot), r = .nx [.own h', .frz (.tup (ss.map enc)), s2] ∧ ss.length = 1 + d1 ∧ (∀ s ∈ ss, SzOk s) ∧ GH h') ((List.range (1 + d1)).map enc)
    (fun i env => ∃ (ss : List Size) (h' : Val) (s2 : PV.Slot), env = [.own h', .frz (.tup (ss.map enc)), s2] ∧ ss.length = i ∧ (∀ s ∈ ss, SzOk s) ∧ GH h')
    [.own h1, .frz (.tup []), .emp] ⟨[], h1, .emp, rfl, rfl, fun _ h => (nomatch h), c1⟩ ?_ ?_
  · obtain ⟨r, k, ss, h', s2, rfl, e1, e2, e3⟩ := key.ex
    refine ⟨ss, h', ?_, ⟨by omega, e2⟩, by omega, e3⟩
    simp at r1
    simp [F__law_sizes, runH, d__law_sizes, a1, r1, k]
  · rintro i hi env ⟨ss, h', s2, rfl, e1, e2, e3⟩
    have hi' : i < 1 + d1 := by simpa using hi
    obtain ⟨x, h2, a2, b2, c2⟩ := drawI e3 (many := 2) (by omega) (by omega)
    obtain ⟨y, h3, a3, b3, c3⟩ := drawI c2 (many := 3) (by omega) (by omega)
    have a4 := oAdd_tt (ss.map enc) [.tup [.int (1 + x), .int (1 + y)]] (szl (by simp; omega))
    simp [a2, a3, a4]
    refine ⟨ss ++ [(1 + x, 1 + y)], h3, ⟨rfl, by simp⟩, by simp [e1], fun a b hs => ?_, c3⟩
    rcases List.mem_append.mp hs with hs | hs
    · exact e2 (a, b) hs
    · rw [List.mem_singleton.mp hs]; exact ⟨by simp; omega, by simp; omega⟩
  · rintro env ⟨ss, h', s2, rfl, e1, e2, e3⟩
    exact ⟨ss, h', s2, rfl, by simpa using e1, e2, e3⟩
end Pc

namespace Pc
open PySem PySem.Spec PyProof.Rows L2 PV Sh
open EV (enc)
open PH (szl GH kH runH_k seq_ok)
@[simp] theorem sl_s (v : Val) : sl (some v) = .frz v := rfl
@[simp] theorem sl_n : sl none = .emp := rfl
def E18 (is : List Int) (h : Val) (t2 t3 : PV.Slot) (t4 : Option Val) (t5 t6 t7 t8 t9 t10 t11 : PV.Slot) (t12 : Option Val) : EnvD := [.frz (.scr is), .own h, t2, t3, sl t4, t5, t6, t7, t8, t9, t10, t11, sl t12, .emp, .emp, .emp, .emp, .emp]
abbrev hF (hd : Hide) : PV.Slot := .frz (hideV hd)
abbrev sF (ss : List Size) : PV.Slot := .frz (.tup (ss.map enc))
abbrev gF (hd : Hide) : PV.Slot := .frz (.lst ((good hd).map enc))
abbrev cF (hd : Hide) (ss : List Size) : PV.Slot := .frz (.lst ((cts (good hd) ss).map layV))
def l85A : SD := (sParO [8, 9] [(dCallH F__law_hide 1 [(dC (.int 3))]), (dCallH F__law_sizes 1 [])])
def l85B : SD := (sParO [10, 11] [(dCB F__law_cells [(dVar 8)]), (dCB F__law_cuts [(dVar 8), (dVar 9)])])
def l85Db : SD := (sOwn (dBin oAdd (dVar 3) (dIf (dTB (dBin oGt (dCB (on1 oLen) [(dCB F__law_cuts [(dVar 8), (dLc [15] (iVal (dVar 4)) (gN 15) dYes (dIxS 9 (dVar 15)))])]) (dC (.int 0)))) (dLst [(dVar 4)]) (dLst []))) 3)
def l85D : SD := (sFor (iVal (dCB F__law_lots [(dCBS oLen 9)])) (gN 4) l85Db)
def l85E : SD := (sOwn (dCB (on1 oLen) [(dIxS 3 (dUn oNeg (dC (.int 1))))]) 5)
def l85F : SD := (sIf (dNotT (dTru (dCB (F__law_is 8) [(dCB F_most_cut [(dVar 8), (dVar 9)]), (dTup [(dVar 5), (dBin oIx (dLc [4] (iVal (dVar 3)) (gN 4) (dTB (dBin oEq (dCBS oLen 4) (dVar 5))) (dVar 4)) (dC (.int 0)))])]))) (sRet (dC (.bl false))) sNil)
def l85G : SD := (sIf (dNotT (dTru (dCB (F__law_is 8) [(dCB F_largest_leaf [(dVar 8)]), (dCB F__law_largest [(dVar 8)])]))) (sRet (dC (.bl false))) sNil)
def l85H : SD := (sOwn (dCB (on1 oSum) [(dLc [13, 14] (iVal (dVar 9)) (gT 2 (gsCons (gN 13) (gsCons (gN 14) gsNil))) dYes (dBin oMul (dVar 13) (dVar 14)))]) 6)
def l85I : SD := (sIf (dNotT (dTru (dCB (F__law_is 8) [(dCB F_waste_of [(dVar 8), (dVar 9)]), (dIf (dTB (dBin oGt (dCBS oLen 11) (dC (.int 0)))) (dBin oSub (dCBS oLen 10) (dVar 6)) (dC .non))]))) (sRet (dC (.bl false))) sNil)
def l85J : SD := (sOwn (dCB (on1 oTuple) [(dLc [12] (iVal (dVar 10)) (gN 12) (dAndT (dTB (dBin oGt (dCBS oLen 11) (dC (.int 0)))) (dTru (dCB (on1 oAll) [(dLc [16, 17] (iVal (dVar 11)) (gT 2 (gsCons (gN 16) (gsCons (gN 17) gsNil))) dYes (dRS oIn (dVar 12) 17))]))) (dVar 12))]) 7)
def l85K : SD := (sIf (dOrT (dNotT (dTru (dCB (F__law_is 8) [(dCB F_needed_hide_cells [(dVar 8), (dVar 9)]), (dVar 7)]))) (dTB (dBin oNe (dCB F_harmful_holes [(dVar 8), (dVar 9)]) (dVar 7)))) (sRet (dC (.bl false))) sNil)
def l85M : SD := (sSeq (sOwn (dCallH F__law_some 1 [(dVar 10)]) 12)
    (sSeq (sIf (dNotT (dTru (dCB (F__law_is 8) [(dCB F_with_hole [(dVar 8), (dVar 12)]), (dCB F__law_holed [(dVar 8), (dVar 12)])]))) (sRet (dC (.bl false))) sNil)
    (sIf (dTB (dBin oNe (dBin oIs (dCB F_waste_of [(dCB F__law_holed [(dVar 8), (dVar 12)]), (dVar 9)]) (dC .non)) (dOrV (dBin oEq (dCBS oLen 11) (dC (.int 0))) (dRS oIn (dVar 12) 7)))) (sRet (dC (.bl false))) sNil)))
def l85L : SD := (sIf (dTB (dBin oGt (dCBS oLen 10) (dC (.int 0)))) l85M sNil)
def turn85 : SD := sSeq l85A (sSeq l85B (sSeq (sOwn (dLst []) 3) (sSeq l85D (sSeq l85E (sSeq l85F (sSeq l85G (sSeq l85H (sSeq l85I (sSeq l85J (sSeq l85K l85L))))))))))
theorem turn85_is : d_law = sSeq (sOwn (dCB F__law_hand [(dVar 0)]) 1) (sSeq (sFor (iRng [(dC (.int 4))]) (gN 2) turn85) (sRet (dC (.bl true)))) := rfl
theorem need_len (hd : Hide) (ss : List Size) : (needC (good hd) ss).length ≤ (good hd).length := List.length_filter_le _ _
theorem hide_plain {hd : Hide} (H : HdOk hd) : plainD 8 (hideV hd) = true := by
  have hf := H.few
  unfold hideV plainD
  rw [Bool.and_eq_true]
  refine ⟨by simp; omega, ?_⟩
  rw [List.all_eq_true]
  intro v hv
  obtain ⟨r, hr, rfl⟩ := List.mem_map.mp hv
  refine plainD_tx 6 ?_
  unfold small
  rw [List.all_eq_true]
  intro c hc
  rcases H.sign r hr c hc with z | z <;> simp [z]
section
variable (is : List Int) (h : Val) (t2 t3 : PV.Slot) (t4 : Option Val) (t5 t6 t7 t8 t9 t10 t11 : PV.Slot) (t12 : Option Val)
theorem l85A_ok (g : GH h) : ∃ (hd : Hide) (ss : List Size) (h' : Val), l85A (E18 is h t2 t3 t4 t5 t6 t7 t8 t9 t10 t11 t12) = .ok (.nx (E18 is h' t2 t3 t4 t5 t6 t7 (hF hd) (sF ss) t10 t11 t12)) ∧ HdOk hd ∧ SzsOk ss ∧ 1 ≤ ss.length ∧ GH h' := by
  obtain ⟨hd, h1, k1, a1, a2, a3, g1⟩ := law_hide_ok g (most := 3) (by decide) (by decide)
  obtain ⟨ss, h2, k2, b1, b2, g2⟩ := law_sizes_ok g1
  refine ⟨hd, ss, h2, ?_, a1, b1, b2, g2⟩
  simp at k1
  simp [l85A, E18, k1, k2]
variable {hd : Hide} {ss : List Size} (H : HdOk hd) (S : SzsOk ss) (n1 : 1 ≤ ss.length)
include H S
theorem l85B_ok : l85B (E18 is h t2 t3 t4 t5 t6 t7 (hF hd) (sF ss) t10 t11 t12) = .ok (.nx (E18 is h t2 t3 t4 t5 t6 t7 (hF hd) (sF ss) (gF hd) (cF hd ss) t12)) := by
  have k1 := law_cells_ok H
  have k2 := law_cuts_ok H S (.tup (ss.map enc)) rfl
  simp [l85B, E18, k1, k2]
theorem l85D_ok : ∃ u4, l85D (E18 is h t2 (.own (.lst [])) t4 t5 t6 t7 (hF hd) (sF ss) (gF hd) (cF hd ss) t12) = .ok (.nx (E18 is h t2 (.own (.lst ((canL (good hd) ss).map enc))) u4 t5 t6 t7 (hF hd) (sF ss) (gF hd) (cF hd ss) t12)) := by
  have hf := S.few
  have ll := lots_len (n := ss.length) (by omega)
  have k1 := law_lots_ok ss.length (by omega)
  have each : ∀ l ∈ lotsL (List.range ss.length), F__law_cuts [hideV hd, .lst ((pick ss l).map enc)] = .ok (.lst ((cts (good hd) (pick ss l)).map layV), false) := fun l hl => by
    have := lots_mem hl
    exact law_cuts_ok H (pick_ok S ⟨by omega, this.2⟩) _ rfl
  have hmem : ∀ l ∈ lotsL (List.range ss.length), l.length ≤ ss.length ∧ ∀ x ∈ l, x < ss.length := fun l hl => lots_mem hl
  unfold canL
  generalize lotsL (List.range ss.length) = lots at *
  obtain ⟨u4, k⟩ := for_app (g := gN 4) (b := l85Db) (fun acc (tl : Option Val) => E18 is h t2 (.own (.lst acc)) tl t5 t6 t7 (hF hd) (sF ss) (gF hd) (cF hd ss) t12) enc (fun l => !(cts (good hd) (pick ss l)).isEmpty) enc lots
    (fun l hl acc tl ha => by
      have k2 := each l hl
      have km := hmem l hl
      have s1 : ∀ a3, dLc [15] (iVal (dVar 4)) (gN 15) dYes (dIxS 9 (dVar 15)) (E18 is h t2 a3 (some (.tup (l.map enc))) t5 t6 t7 (hF hd) (sF ss) (gF hd) (cF hd ss) t12) = .ok (.lst ((pick ss l).map enc), true, (E18 is h t2 a3 (some (.tup (l.map enc))) t5 t6 t7 (hF hd) (sF ss) (gF hd) (cF hd ss) t12)) := fun a3 => by
        rw [lcM l enc (fun a => enc (ss.getD a (1, 1))) (by simp [E18]) (szl (by omega)) (fun a ha => by
          have := pick_at (km.2 a ha)
          simp only [enc_pair, enc_nat] at this
          simp [E18, this]) (by simp [E18]) (by simp [E18])]
        simp [pick, Function.comp_def]
      have a1 := oAdd_ll acc [enc l] (by simp; omega)
      have a0 := oAdd_ll acc [] (by simp; omega)
      simp [E18] at s1
      simp at a1 a0
      generalize cts (good hd) (pick ss l) = C at *
      cases C <;> simp at k2 <;> simp [l85Db, E18, s1, k2, a1, a0]) [] t4 (szl (by simp; omega))
  refine ⟨u4, ?_⟩
  unfold l85D
  rw [sFor_a]
  have e : iVal (dCB F__law_lots [(dCBS oLen 9)]) (E18 is h t2 (.own (.lst [])) t4 t5 t6 t7 (hF hd) (sF ss) (gF hd) (cF hd ss) t12) = .ok (lots.map enc, E18 is h t2 (.own (.lst [])) t4 t5 t6 t7 (hF hd) (sF ss) (gF hd) (cF hd ss) t12) := by simp [E18, k1]
  rw [e, res_ok_bind, k]; rfl
abbrev L85 (hd : Hide) (ss : List Size) : List (List Nat) := canL (good hd) ss
theorem l85E_ok : l85E (E18 is h t2 (.own (.lst ((canL (good hd) ss).map enc))) t4 t5 t6 t7 (hF hd) (sF ss) (gF hd) (cF hd ss) t12) = .ok (.nx (E18 is h t2 (.own (.lst ((canL (good hd) ss).map enc))) t4 (.frz (.int (mostL (canL (good hd) ss)))) t6 t7 (hF hd) (sF ss) (gF hd) (cF hd ss) t12)) := by
  have hne := canL_ne (good hd) ss
  unfold mostL
  generalize canL (good hd) ss = L at *
  have e := oIx_l (L.map enc) (-1) (v := enc (L.getLastD [])) (atI_last' (by
    rw [List.getLast?_map, List.getLastD_eq_getLast?]
    cases q : L.getLast? with
    | none => rw [List.getLast?_eq_none_iff] at q; exact absurd q hne
    | some x => rfl))
  simp at e
  simp [l85E, E18, e]
include n1
theorem l85F_ok : ∃ u4, l85F (E18 is h t2 (.own (.lst ((canL (good hd) ss).map enc))) t4 (.frz (.int (mostL (canL (good hd) ss)))) t6 t7 (hF hd) (sF ss) (gF hd) (cF hd ss) t12) = .ok (.nx (E18 is h t2 (.frz (.lst ((canL (good hd) ss).map enc))) u4 (.frz (.int (mostL (canL (good hd) ss)))) t6 t7 (hF hd) (sF ss) (gF hd) (cF hd ss) t12)) := by
  have k := most_cut_ok H S n1
  have hf := S.few
  have hlen : (canL (good hd) ss).length ≤ 256 := Nat.le_trans (List.length_filter_le _ _) (lots_len (n := ss.length) (by omega))
  obtain ⟨xs, hb⟩ := best_has (canL_ne (good hd) ss)
  have hbl : (bestLot (canL (good hd) ss)).length ≤ 1000000 := by
    have : bestLot (canL (good hd) ss) ∈ canL (good hd) ss := (List.mem_filter.mp (by rw [hb]; simp : bestLot (canL (good hd) ss) ∈ _)).1
    have := (lots_mem (List.mem_filter.mp this).1).1
    omega
  refine ⟨t4, ?_⟩
  generalize canL (good hd) ss = L at *
  generalize mostL L = m at *
  generalize bestLot L = bl at *
  have s1 : dLc [4] (iVal (dVar 3)) (gN 4) (dTB (dBin oEq (dCBS oLen 4) (dVar 5))) (dVar 4) (E18 is h t2 (.own (.lst (L.map enc))) t4 (.frz (.int m)) t6 t7 (hF hd) (sF ss) (gF hd) (cF hd ss) t12) = .ok (.lst ((bl :: xs).map enc), true, (E18 is h t2 (.frz (.lst (L.map enc))) t4 (.frz (.int m)) t6 t7 (hF hd) (sF ss) (gF hd) (cF hd ss) t12)) := by
    rw [← hb]
    rw [lc_filter (env1 := E18 is h t2 (.frz (.lst (L.map enc))) t4 (.frz (.int m)) t6 t7 (hF hd) (sF ss) (gF hd) (cF hd ss) t12) L enc enc (fun l => decide (l.length = m)) (by simp [E18]) (by cases t4 <;> simp [E18]) (szl (by omega)) (fun l hl => by
      by_cases c : l.length = m
      · simp [E18, c]
      · have c' : ¬ ((l.length : Int) = m) := by omega
        simp [E18, c, c']) (by simp [E18])]
  have e : oIx (.lst ((bl :: xs).map enc)) (.int 0) = .ok (.tup (bl.map enc), false) := oIx_l _ _ (by have := atI_nat' (xs := (bl :: xs).map (enc (α := List Nat))) (i := 0) (by simp); simpa using this)
  have q := law_is_ok 8 (.tup [.int m, .tup (bl.map enc)]) (by simp [plainD, hbl])
  simp [E18] at s1 e k
  simp [l85F, E18, s1, e, k, q]
theorem l85G_ok : l85G (E18 is h t2 t3 t4 t5 t6 t7 (hF hd) (sF ss) (gF hd) (cF hd ss) t12) = .ok (.nx (E18 is h t2 t3 t4 t5 t6 t7 (hF hd) (sF ss) (gF hd) (cF hd ss) t12)) := by
  have k1 := largest_leaf_ok H
  have k2 := law_largest_ok H
  have q := law_is_ok 8 (bstV (bestL (good hd))) (by
    obtain ⟨n, o⟩ := bestL (good hd)
    cases o <;> simp [bstV, encO, plainD])
  generalize bstV (bestL (good hd)) = b at *
  simp [l85G, E18, k1, k2, q]
theorem l85H_ok : l85H (E18 is h t2 t3 t4 t5 t6 t7 (hF hd) (sF ss) (gF hd) (cF hd ss) t12) = .ok (.nx (E18 is h t2 t3 t4 t5 (.frz (.int (need ss))) t7 (hF hd) (sF ss) (gF hd) (cF hd ss) t12)) := by
  have hf := S.few
  have s1 : dLc [13, 14] (iVal (dVar 9)) (gT 2 (gsCons (gN 13) (gsCons (gN 14) gsNil))) dYes (dBin oMul (dVar 13) (dVar 14)) (E18 is h t2 t3 t4 t5 t6 t7 (hF hd) (sF ss) (gF hd) (cF hd ss) t12) = .ok (.lst (ss.map fun s => .int ((s.1 : Int) * s.2)), true, (E18 is h t2 t3 t4 t5 t6 t7 (hF hd) (sF ss) (gF hd) (cF hd ss) t12)) := by
    rw [lcM ss enc (fun s => .int ((s.1 : Int) * s.2)) (by simp [E18]) (szl (by omega)) (fun x hx => by
      have := S.all x hx
      simp [E18, oMul_ii _ _ (mul_small (a := x.1) (b := x.2) (by have := this.h1; omega))]) (by simp [E18]) (by simp [E18])]
  simp [E18] at s1
  simp [l85H, E18, s1, need]
theorem l85I_ok : l85I (E18 is h t2 t3 t4 t5 (.frz (.int (need ss))) t7 (hF hd) (sF ss) (gF hd) (cF hd ss) t12) = .ok (.nx (E18 is h t2 t3 t4 t5 (.frz (.int (need ss))) t7 (hF hd) (sF ss) (gF hd) (cF hd ss) t12)) := by
  have k := waste_of_ok H S n1
  have q1 := law_is_ok 8 .non rfl
  have q2 := law_is_ok 8 (.int ((good hd).length - need ss)) rfl
  unfold waste at k
  simp only [gF, cF]
  generalize good hd = g at *
  generalize cts g ss = C at *
  cases C <;> simp at k <;> simp [l85I, E18, k, q1, q2]
abbrev nF (hd : Hide) (ss : List Size) : PV.Slot := .frz (.tup ((needC (good hd) ss).map enc))
theorem l85J_ok : l85J (E18 is h t2 t3 t4 t5 t6 t7 (hF hd) (sF ss) (gF hd) (cF hd ss) t12) = .ok (.nx (E18 is h t2 t3 t4 t5 t6 (nF hd ss) (hF hd) (sF ss) (gF hd) (cF hd ss) t12)) := by
  have l1 := cts_len (good_len H) S
  have l2 := good_len H
  unfold nF needC
  simp only [gF, cF]
  generalize good hd = g at *
  generalize cts g ss = F at *
  have s1 : dLc [12] (iVal (dVar 10)) (gN 12) (dAndT (dTB (dBin oGt (dCBS oLen 11) (dC (.int 0)))) (dTru (dCB (on1 oAll) [(dLc [16, 17] (iVal (dVar 11)) (gT 2 (gsCons (gN 16) (gsCons (gN 17) gsNil))) dYes (dRS oIn (dVar 12) 17))]))) (dVar 12) (E18 is h t2 t3 t4 t5 t6 t7 (hF hd) (sF ss) (.frz (.lst (g.map enc))) (.frz (.lst (F.map layV))) t12) = .ok (.lst ((g.filter fun c => !F.isEmpty && F.all fun p => decide (c ∈ p.2)).map enc), true, (E18 is h t2 t3 t4 t5 t6 t7 (hF hd) (sF ss) (.frz (.lst (g.map enc))) (.frz (.lst (F.map layV))) t12)) := by
    rw [lcF g enc enc (fun c => !F.isEmpty && F.all fun p => decide (c ∈ p.2)) (by simp [E18]) (szl (by omega)) (fun c hc => by
      have s2 : dLc [16, 17] (iVal (dVar 11)) (gT 2 (gsCons (gN 16) (gsCons (gN 17) gsNil))) dYes (dRS oIn (dVar 12) 17) (E18 is h t2 t3 t4 t5 t6 t7 (hF hd) (sF ss) (.frz (.lst (g.map enc))) (.frz (.lst (F.map layV))) (some (.tup [.int c.1, .int c.2]))) = .ok (.lst (F.map fun p => .bl (decide (c ∈ p.2))), true, E18 is h t2 t3 t4 t5 t6 t7 (hF hd) (sF ss) (.frz (.lst (g.map enc))) (.frz (.lst (F.map layV))) (some (.tup [.int c.1, .int c.2]))) := by
        rw [lcM F layV (fun p => .bl (decide (c ∈ p.2))) (by simp [E18]) (szl (by omega)) (fun p hp => by simp [E18, layV, in_u]) (by simp [E18]) (by simp [E18])]
      simp [E18] at s2
      have ho := oAll_f F (fun p => decide (c ∈ p.2))
      by_cases hF : F = []
      · subst hF; simp [E18]
      · have hp := List.length_pos_iff.mpr hF
        have hi : F.isEmpty = false := by cases F <;> simp at hF ⊢
        generalize (F.map fun p => Val.bl (decide (c ∈ p.2))) = BL at *
        generalize (F.all fun p => decide (c ∈ p.2)) = bb at *
        cases bb <;> simp [E18, s2, hp, hi, ho]) (by cases t12 <;> simp [E18]) (by simp [E18])]
  simp [E18] at s1
  simp [l85J, E18, s1]
theorem l85K_ok : l85K (E18 is h t2 t3 t4 t5 t6 (nF hd ss) (hF hd) (sF ss) (gF hd) (cF hd ss) t12) = .ok (.nx (E18 is h t2 t3 t4 t5 t6 (nF hd ss) (hF hd) (sF ss) (gF hd) (cF hd ss) t12)) := by
  have k1 := needed_hide_cells_ok H S n1
  have k2 := harmful_ok H S n1
  have hl := need_len hd ss
  have hg := good_len H
  have q := law_is_ok 8 (.tup ((needC (good hd) ss).map enc)) (plainD_cells 5 _ (by omega))
  have ne := oNe_tt (needC (good hd) ss) (needC (good hd) ss) (by decide)
  simp only [nF]
  generalize needC (good hd) ss = nc at *
  simp at ne
  simp [l85K, E18, k1, k2, q, ne]
theorem l85M_ok (g : GH h) (hne : good hd ≠ []) : ∃ (h' : Val) (u12 : Option Val), l85M (E18 is h t2 t3 t4 t5 t6 (nF hd ss) (hF hd) (sF ss) (gF hd) (cF hd ss) t12) = .ok (.nx (E18 is h' t2 t3 t4 t5 t6 (nF hd ss) (hF hd) (sF ss) (gF hd) (cF hd ss) u12)) ∧ GH h' := by
  have hg := good_len H
  obtain ⟨c, h', e0, hc, g'⟩ := law_some_l g enc (good hd) hne (by omega)
  have H' := hole_ok H hc
  have e1 := with_hole_ok H hc
  have e2 := law_holed_ok H hc
  have e3 := law_is_ok 8 (hideV (holeH hd c)) (hide_plain H')
  have e4 := waste_of_ok H' S n1
  have e5 : isNon (enc (waste (holeH hd c) ss)) = ((cts (good hd) ss).isEmpty || decide (c ∈ needC (good hd) ss)) := by
    have q : (cts (good (holeH hd c)) ss).isEmpty = ((cts (good hd) ss).all fun p => decide (c ∈ p.2)) := by rw [good_hole hc]; exact hole_empty _ S.all c
    unfold waste needC
    rw [q]
    cases hh : (cts (good hd) ss).all (fun p => decide (c ∈ p.2)) with
    | true =>
      cases hq : (cts (good hd) ss).isEmpty <;> simp [hh, hq, hc]
    | false =>
      have : (cts (good hd) ss).isEmpty = false := by
        cases hz : cts (good hd) ss with
        | nil => rw [hz] at hh; simp at hh
        | cons _ _ => rfl
      simp [hh, this, hc]
  have e6 := in_u c (needC (good hd) ss)
  refine ⟨h', some (enc c), ?_, g'⟩
  have e7 : ((cts (good hd) ss).isEmpty) = decide (((cts (good hd) ss).length : Int) = 0) := by
    cases cts (good hd) ss with
    | nil => rfl
    | cons p F => simp; omega
  rw [e7] at e5
  simp only [nF, gF, cF]
  generalize needC (good hd) ss = nc at *
  generalize cts (good hd) ss = F at *
  generalize enc (waste (holeH hd c) ss) = wv at *
  generalize holeH hd c = hh at *
  simp only [enc_pair, enc_nat] at e0 e1 e2
  by_cases z : (F.length : Int) = 0
  · have z' : F = [] := List.length_eq_zero_iff.mp (by omega)
    subst z'
    simp at e4 e5
    simp [l85M, E18, e0, e1, e2, e3, e4, e5]
  · have z' : ¬ F = [] := fun y => z (by rw [y]; rfl)
    simp [z'] at e5
    cases hm : decide (c ∈ nc) <;> simp at hm <;> simp [hm] at e5 e6 <;> simp [l85M, E18, e0, e1, e2, e3, e4, e5, e6, z']
theorem l85L_ok (g : GH h) : ∃ (h' : Val) (u12 : Option Val), l85L (E18 is h t2 t3 t4 t5 t6 (nF hd ss) (hF hd) (sF ss) (gF hd) (cF hd ss) t12) = .ok (.nx (E18 is h' t2 t3 t4 t5 t6 (nF hd ss) (hF hd) (sF ss) (gF hd) (cF hd ss) u12)) ∧ GH h' := by
  by_cases hne : good hd = []
  · refine ⟨h, t12, ?_, g⟩
    simp only [gF]
    rw [hne]
    simp [l85L, E18]
  · obtain ⟨h', u, k, g'⟩ := l85M_ok is h t2 t3 t4 t5 t6 t12 H S n1 g hne
    refine ⟨h', u, ?_, g'⟩
    have hp := List.length_pos_iff.mpr hne
    unfold l85L
    rw [sIf_a]
    have : dTB (dBin oGt (dCBS oLen 10) (dC (.int 0))) (E18 is h t2 t3 t4 t5 t6 (nF hd ss) (hF hd) (sF ss) (gF hd) (cF hd ss) t12) = .ok (true, E18 is h t2 t3 t4 t5 t6 (nF hd ss) (hF hd) (sF ss) (gF hd) (cF hd ss) t12) := by
      simp [E18, hp]
    rw [this]
    simp only [res_ok_bind, if_true]
    exact k
end
theorem turn85_ok (is : List Int) (h : Val) (g : GH h) (t2 t3 : PV.Slot) (t4 : Option Val) (t5 t6 t7 t8 t9 t10 t11 : PV.Slot) (t12 : Option Val) : ∃ (h' : Val) (u2 u3 : PV.Slot) (u4 : Option Val) (u5 u6 u7 u8 u9 u10 u11 : PV.Slot) (u12 : Option Val),
    turn85 (E18 is h t2 t3 t4 t5 t6 t7 t8 t9 t10 t11 t12) = .ok (.nx (E18 is h' u2 u3 u4 u5 u6 u7 u8 u9 u10 u11 u12)) ∧ GH h' := by
  obtain ⟨hd, ss, h1, eA, H, S, n1, g1⟩ := l85A_ok is h t2 t3 t4 t5 t6 t7 t8 t9 t10 t11 t12 g
  have eB := l85B_ok is h1 t2 t3 t4 t5 t6 t7 t10 t11 t12 H S
  have eC : (sOwn (dLst []) 3) (E18 is h1 t2 t3 t4 t5 t6 t7 (hF hd) (sF ss) (gF hd) (cF hd ss) t12) = .ok (.nx (E18 is h1 t2 (.own (.lst [])) t4 t5 t6 t7 (hF hd) (sF ss) (gF hd) (cF hd ss) t12)) := by simp [E18]
  obtain ⟨u4, eD⟩ := l85D_ok is h1 t2 t4 t5 t6 t7 t12 H S
  have eE := l85E_ok is h1 t2 u4 t5 t6 t7 t12 H S
  obtain ⟨v4, eF⟩ := l85F_ok is h1 t2 u4 t6 t7 t12 H S n1
  have eG := l85G_ok is h1 t2 (.frz (.lst ((canL (good hd) ss).map enc))) v4 (.frz (.int (mostL (canL (good hd) ss)))) t6 t7 t12 H S n1
  have eH := l85H_ok is h1 t2 (.frz (.lst ((canL (good hd) ss).map enc))) v4 (.frz (.int (mostL (canL (good hd) ss)))) t6 t7 t12 H S n1
  have eI := l85I_ok is h1 t2 (.frz (.lst ((canL (good hd) ss).map enc))) v4 (.frz (.int (mostL (canL (good hd) ss)))) t7 t12 H S n1
  have eJ := l85J_ok is h1 t2 (.frz (.lst ((canL (good hd) ss).map enc))) v4 (.frz (.int (mostL (canL (good hd) ss)))) (.frz (.int (need ss))) t7 t12 H S n1
  have eK := l85K_ok is h1 t2 (.frz (.lst ((canL (good hd) ss).map enc))) v4 (.frz (.int (mostL (canL (good hd) ss)))) (.frz (.int (need ss))) t12 H S n1
  obtain ⟨h2, u12, eL, g2⟩ := l85L_ok is h1 t2 (.frz (.lst ((canL (good hd) ss).map enc))) v4 (.frz (.int (mostL (canL (good hd) ss)))) (.frz (.int (need ss))) t12 H S n1 g1
  exact ⟨h2, _, _, _, _, _, _, _, _, _, _, _, seq_ok eA (seq_ok eB (seq_ok eC (seq_ok eD (seq_ok eE (seq_ok eF (seq_ok eG (seq_ok eH (seq_ok eI (seq_ok eJ (seq_ok eK eL)))))))))), g2⟩
theorem law85 (is : List Int) (hl : is.length ≤ 63) : ∃ o, F_law [.scr is] = .ok (.bl true, o) := by
  refine ⟨false, ?_⟩
  obtain ⟨h0, e0, g0⟩ := law_hand_ok is hl
  have hr := range_1 4 (by decide)
  have key := for_inv (g := gN 2) (b := turn85) (Q := fun r => ∃ h' t2 t3 t4 t5 t6 t7 t8 t9 t10 t11 t12, r = .nx (E18 is h' t2 t3 t4 t5 t6 t7 t8 t9 t10 t11 t12)) ((List.range 4).map enc)
    (fun _ env => ∃ h' t2 t3 t4 t5 t6 t7 t8 t9 t10 t11 t12, env = E18 is h' t2 t3 t4 t5 t6 t7 t8 t9 t10 t11 t12 ∧ GH h')
    (E18 is h0 .emp .emp none .emp .emp .emp .emp .emp .emp .emp none) ⟨h0, _, _, _, _, _, _, _, _, _, _, _, rfl, g0⟩ ?_ ?_
  · obtain ⟨r, k1, h', t2, t3, t4, t5, t6, t7, t8, t9, t10, t11, t12, rfl⟩ := key.ex
    unfold F_law runF
    rw [turn85_is]
    simp [E18] at k1
    simp at hr
    simp [e0, hr, k1]
  · rintro i hi env ⟨h', t2, t3, t4, t5, t6, t7, t8, t9, t10, t11, t12, rfl, g⟩
    rw [List.getElem_map]
    have hi' : i < (List.range 4).length := by simpa using hi
    obtain ⟨h2, u2, u3, u4, u5, u6, u7, u8, u9, u10, u11, u12, e, g2⟩ := turn85_ok is h' g (.frz (enc ((List.range 4)[i]'hi'))) t3 t4 t5 t6 t7 t8 t9 t10 t11 t12
    generalize (List.range 4)[i]'hi' = j at e
    rw [show gN 2 (enc j) (E18 is h' t2 t3 t4 t5 t6 t7 t8 t9 t10 t11 t12) = .ok (E18 is h' (.frz (enc j)) t3 t4 t5 t6 t7 t8 t9 t10 t11 t12) from rfl, res_ok_bind, e]
    exact ⟨_, _, _, _, _, _, _, _, _, _, _, _, rfl, g2⟩
  · rintro env ⟨h', t2, t3, t4, t5, t6, t7, t8, t9, t10, t11, t12, rfl, g⟩
    exact ⟨h', t2, t3, t4, t5, t6, t7, t8, t9, t10, t11, t12, rfl⟩
end Pc

namespace K85
open PySem PySem.Spec PyProof.Rows L2 PV
open PySem.W (minD maxD dataLt)
open Pc Sh
def topS (i : Nat) : Stmt := PySem.Challenge.pw_scriptoria_k85_whole_waste_and_holes.main.body.getD i (.Pass ⟨0, 0, 0, 0⟩)
section
variable {P : Program} {w : World} {K : PySem.W.Frag} {mg : Str → Option Value} {base : Heap}
abbrev st_is_integer : Stmt := topS 1
theorem sc_is_integer : FnScope ["thing"] ["thing"] (defScope st_is_integer) := ⟨rfl, rfl, rfl, by decide +kernel, rfl, by decide +kernel, by decide +kernel⟩
theorem okf_is_integer {f : Addr} {fd : FuncData} (F : L2.Fun K "is_integer" "is_integer" st_is_integer f fd) (hm : mg "is_integer" = some (.ref f)) (m_isinstance : mg "isinstance" = none) (m_int : mg "int" = none) (m_bool : mg "bool" = none) : FnOk P w K mg base (L2.CX P w) 1 f fd ["thing"] (spP K mg 1 F_is_integer) := by
  refine ok_def (N := ["thing"]) (ps := ["thing"]) (d := d_is_integer) F sc_is_integer (fun cdv A outer s H E PP hr => ?_)
  have U := u_of hr
  have nd := sc_is_integer.nd
  exact (ss_one
    (ss_ret (se_and (v_blt call_isiV s_isi m_isinstance bt_isinstance (v_cons (v_var 0) (v_cons (v_ty m_int bt_int) sa_nil))) (pe_one (se_not (v_blt call_isiV s_isi m_isinstance bt_isinstance (v_cons (v_var 0) (v_cons (v_ty m_bool bt_bool) sa_nil))))))))
theorem ok_is_integer {f : Addr} {fd : FuncData} (F : L2.Fun K "is_integer" "is_integer" st_is_integer f fd) (hm : mg "is_integer" = some (.ref f)) (m_isinstance : mg "isinstance" = none) (m_int : mg "int" = none) (m_bool : mg "bool" = none) : Good P w K mg base "is_integer" 1 ["thing"] F_is_integer := ⟨f, fd, okf_is_integer F hm m_isinstance m_int m_bool, hm, F.kp, F.binds (ps := ["thing"]) fun _ _ _ _ _ _ us hl => match us, hl with | [_], _ => rfl⟩
abbrev st_is_within : Stmt := topS 2
theorem sc_is_within : FnScope ["thing", "low", "high"] ["thing", "low", "high"] (defScope st_is_within) := ⟨rfl, rfl, rfl, by decide +kernel, rfl, by decide +kernel, by decide +kernel⟩
theorem okf_is_within {f : Addr} {fd : FuncData} (F : L2.Fun K "is_within" "is_within" st_is_within f fd) (hm : mg "is_within" = some (.ref f)) (g_is_integer : Good P w K mg base "is_integer" 1 ["thing"] F_is_integer) : FnOk P w K mg base (L2.CX P w) 2 f fd ["thing", "low", "high"] (spP K mg 3 F_is_within) := by
  refine ok_def (N := ["thing", "low", "high"]) (ps := ["thing", "low", "high"]) (d := d_is_within) F sc_is_within (fun cdv A outer s H E PP hr => ?_)
  have U := u_of hr
  have nd := sc_is_within.nd
  exact (ss_one
    (ss_ret (se_and (v_call g_is_integer hr pass_top (v_cons (v_var 0) sa_nil)) (pe_one (se_chain (op_leV (u64 U)) (op_leV (u64 U)) (s_ord fun _ _ => rfl) (s_ord fun _ _ => rfl) (v_var 1) (v_var 0) (v_var 2) (by rfl))))))
theorem ok_is_within {f : Addr} {fd : FuncData} (F : L2.Fun K "is_within" "is_within" st_is_within f fd) (hm : mg "is_within" = some (.ref f)) (g_is_integer : Good P w K mg base "is_integer" 1 ["thing"] F_is_integer) : Good P w K mg base "is_within" 2 ["thing", "low", "high"] F_is_within := ⟨f, fd, okf_is_within F hm g_is_integer, hm, F.kp, F.binds (ps := ["thing", "low", "high"]) fun _ _ _ _ _ _ us hl => match us, hl with | [_, _, _], _ => rfl⟩
abbrev st_is_sized : Stmt := topS 3
theorem sc_is_sized : FnScope ["thing", "low", "high"] ["thing", "low", "high"] (defScope st_is_sized) := ⟨rfl, rfl, rfl, by decide +kernel, rfl, by decide +kernel, by decide +kernel⟩
theorem okf_is_sized {f : Addr} {fd : FuncData} (F : L2.Fun K "is_sized" "is_sized" st_is_sized f fd) (hm : mg "is_sized" = some (.ref f)) (m_isinstance : mg "isinstance" = none) (m_tuple : mg "tuple" = none) (m_len : mg "len" = none) : FnOk P w K mg base (L2.CX P w) 1 f fd ["thing", "low", "high"] (spP K mg 3 F_is_sized) := by
  refine ok_def (N := ["thing", "low", "high"]) (ps := ["thing", "low", "high"]) (d := d_is_sized) F sc_is_sized (fun cdv A outer s H E PP hr => ?_)
  have U := u_of hr
  have nd := sc_is_sized.nd
  exact (ss_one
    (ss_ret (se_and (v_blt call_isiV s_isi m_isinstance bt_isinstance (v_cons (v_var 0) (v_cons (v_ty m_tuple bt_tuple) sa_nil))) (pe_one (se_chain (op_leV (u64 U)) (op_leV (u64 U)) (s_ord fun _ _ => rfl) (s_ord fun _ _ => rfl) (v_var 1) (v_bltS call_lenV s_len m_len bt_len (L2.pv 0)) (v_var 2) (by rfl))))))
theorem ok_is_sized {f : Addr} {fd : FuncData} (F : L2.Fun K "is_sized" "is_sized" st_is_sized f fd) (hm : mg "is_sized" = some (.ref f)) (m_isinstance : mg "isinstance" = none) (m_tuple : mg "tuple" = none) (m_len : mg "len" = none) : Good P w K mg base "is_sized" 1 ["thing", "low", "high"] F_is_sized := ⟨f, fd, okf_is_sized F hm m_isinstance m_tuple m_len, hm, F.kp, F.binds (ps := ["thing", "low", "high"]) fun _ _ _ _ _ _ us hl => match us, hl with | [_, _, _], _ => rfl⟩
abbrev st_all_lots : Stmt := topS 4
theorem sc_all_lots : FnScope ["some", "found", "one", "size", "lot"] ["some"] (defScope st_all_lots) := ⟨rfl, rfl, rfl, by decide +kernel, rfl, by decide +kernel, by decide +kernel⟩
theorem okf_all_lots {f : Addr} {fd : FuncData} (F : L2.Fun K "all_lots" "all_lots" st_all_lots f fd) (hm : mg "all_lots" = some (.ref f)) (m_sorted : mg "sorted" = none) (m_len : mg "len" = none) : FnOk P w K mg base (L2.CX P w) 1 f fd ["some"] (spP K mg 1 F_all_lots) := by
  refine ok_def (N := ["some", "found", "one", "size", "lot"]) (ps := ["some"]) (d := d_all_lots) F sc_all_lots (fun cdv A outer s H E PP hr => ?_)
  have U := u_of hr
  have nd := sc_all_lots.nd
  exact (ss_cons (v_set 1 nd (v_lst (v_cons (v_tup sa_nil) sa_nil)))
    (ss_cons (v_for own_top (v_ival (v_var 0)) (g_nm 2 nd) (ss_one
    (v_set 1 nd (se_bin op_addV s_add (v_var 1) (v_lc [("lot", 4)] nd (v_ival (v_var 1)) (fun s H C cl fp PP => (g_nm 4 nd)) (fun s H C cl fp PP => (se_bin op_addV s_add (v_var 4) (v_tup (v_cons (v_var 2) sa_nil)))))))))
    (ss_one
    (ss_ret (v_lc [("size", 3), ("lot", 4)] nd (v_ival (v_blt (call_sortV (u64 U)) (OpSLR.opl s_sorted) m_sorted bt_sorted (v_cons (v_lc [("lot", 4)] nd (v_ival (v_var 1)) (fun s H C cl fp PP => (g_nm 4 nd)) (fun s H C cl fp PP => (v_tup (v_cons (v_bltS call_lenV s_len m_len bt_len (L2.pv 4)) (v_cons (v_var 4) sa_nil))))) sa_nil))) (fun s H C cl fp PP => (g_tup (g_cons (g_nm 3 nd) (g_cons (g_nm 4 nd) sgs_nil)))) (fun s H C cl fp PP => (v_var 4)))))))
theorem ok_all_lots {f : Addr} {fd : FuncData} (F : L2.Fun K "all_lots" "all_lots" st_all_lots f fd) (hm : mg "all_lots" = some (.ref f)) (m_sorted : mg "sorted" = none) (m_len : mg "len" = none) : Good P w K mg base "all_lots" 1 ["some"] F_all_lots := ⟨f, fd, okf_all_lots F hm m_sorted m_len, hm, F.kp, F.binds (ps := ["some"]) fun _ _ _ _ _ _ us hl => match us, hl with | [_], _ => rfl⟩
abbrev st_is_hide : Stmt := topS 14
theorem sc_is_hide : FnScope ["thing", "sign", "row"] ["thing"] (defScope st_is_hide) := ⟨rfl, rfl, rfl, by decide +kernel, rfl, by decide +kernel, by decide +kernel⟩
theorem okf_is_hide {f : Addr} {fd : FuncData} (F : L2.Fun K "is_hide" "is_hide" st_is_hide f fd) (hm : mg "is_hide" = some (.ref f)) (g_is_sized : Good P w K mg base "is_sized" 1 ["thing", "low", "high"] F_is_sized) (m_all : mg "all" = none) (m_isinstance : mg "isinstance" = none) (m_str : mg "str" = none) (m_len : mg "len" = none) (m_any : mg "any" = none) (c_MOST_SIDE : ∃ t, mg "MOST_SIDE" = some (.int 5 t)) : FnOk P w K mg base (L2.CX P w) 2 f fd ["thing"] (spP K mg 1 F_is_hide) := by
  refine ok_def (N := ["thing", "sign", "row"]) (ps := ["thing"]) (d := d_is_hide) F sc_is_hide (fun cdv A outer s H E PP hr => ?_)
  have U := u_of hr
  have nd := sc_is_hide.nd
  exact (ss_cons (ss_if (L2.PW.pt (sw_or (st_not (vt_true (v_call g_is_sized hr pass_top (v_cons (v_var 0) (v_cons se_int (v_cons (v_glI' c_MOST_SIDE) sa_nil)))))) (L2.pw_or1 (st_not (vt_true (v_blt (L2.cr_all rfl) (OpSLR.opl s_all) m_all bt_all (v_cons (v_lc [("row", 2)] nd (v_ival (v_var 0)) (fun s H C cl fp PP => (g_nm 2 nd)) (fun s H C cl fp PP => (v_blt call_isiV s_isi m_isinstance bt_isinstance (v_cons (v_var 2) (v_cons (v_ty m_str bt_str) sa_nil))))) sa_nil))))))) (ss_one
    (ss_ret se_bl)) ss_nil)
    (ss_cons (ss_if (L2.PW.pt (sw_or (st_not (st_chain (op_leV (u64 U)) (op_leV (u64 U)) (s_ord fun _ _ => rfl) (s_ord fun _ _ => rfl) se_int (v_blt call_lenV (OpSLR.opl s_len) m_len bt_len (v_cons (v_ixS U (L2.pv 0) se_int) sa_nil)) (v_glI' c_MOST_SIDE) (by rfl))) (L2.pw_or1 (vt_true (v_blt (L2.cr_any rfl) (OpSLR.opl s_any) m_any bt_any (v_cons (v_lc [("row", 2)] nd (v_ival (v_var 0)) (fun s H C cl fp PP => (g_nm 2 nd)) (fun s H C cl fp PP => (v_cmp (L2.op_neD (u64 U)) s_ne (v_bltS call_lenV s_len m_len bt_len (L2.pv 2)) (v_blt call_lenV (OpSLR.opl s_len) m_len bt_len (v_cons (v_ixS U (L2.pv 0) se_int) sa_nil))))) sa_nil)))))) (ss_one
    (ss_ret se_bl)) ss_nil)
    (ss_one
    (ss_ret (v_blt (L2.cr_all rfl) (OpSLR.opl s_all) m_all bt_all (v_cons (v_lc [("sign", 1)] nd (v_ival (v_join se_str (v_var 0))) (fun s H C cl fp PP => (g_nm 1 nd)) (fun s H C cl fp PP => (v_cmp (op_inV (u65 U)) (OpSR2.ops s_in) (v_var 1) se_str))) sa_nil))))))
theorem ok_is_hide {f : Addr} {fd : FuncData} (F : L2.Fun K "is_hide" "is_hide" st_is_hide f fd) (hm : mg "is_hide" = some (.ref f)) (g_is_sized : Good P w K mg base "is_sized" 1 ["thing", "low", "high"] F_is_sized) (m_all : mg "all" = none) (m_isinstance : mg "isinstance" = none) (m_str : mg "str" = none) (m_len : mg "len" = none) (m_any : mg "any" = none) (c_MOST_SIDE : ∃ t, mg "MOST_SIDE" = some (.int 5 t)) : Good P w K mg base "is_hide" 2 ["thing"] F_is_hide := ⟨f, fd, okf_is_hide F hm g_is_sized m_all m_isinstance m_str m_len m_any c_MOST_SIDE, hm, F.kp, F.binds (ps := ["thing"]) fun _ _ _ _ _ _ us hl => match us, hl with | [_], _ => rfl⟩
abbrev st_check_hide : Stmt := topS 15
theorem sc_check_hide : FnScope ["thing"] ["thing"] (defScope st_check_hide) := ⟨rfl, rfl, rfl, by decide +kernel, rfl, by decide +kernel, by decide +kernel⟩
theorem okf_check_hide {f : Addr} {fd : FuncData} (F : L2.Fun K "check_hide" "check_hide" st_check_hide f fd) (hm : mg "check_hide" = some (.ref f)) (g_is_hide : Good P w K mg base "is_hide" 2 ["thing"] F_is_hide) : FnOk P w K mg base (L2.CX P w) 3 f fd ["thing"] (spP K mg 1 F_check_hide) := by
  refine ok_def (N := ["thing"]) (ps := ["thing"]) (d := d_check_hide) F sc_check_hide (fun cdv A outer s H E PP hr => ?_)
  have U := u_of hr
  have nd := sc_check_hide.nd
  exact (ss_one
    (ss_if (st_not (vt_true (v_call g_is_hide hr pass_top (v_cons (v_var 0) sa_nil)))) (ss_one
    v_no) ss_nil))
theorem ok_check_hide {f : Addr} {fd : FuncData} (F : L2.Fun K "check_hide" "check_hide" st_check_hide f fd) (hm : mg "check_hide" = some (.ref f)) (g_is_hide : Good P w K mg base "is_hide" 2 ["thing"] F_is_hide) : Good P w K mg base "check_hide" 3 ["thing"] F_check_hide := ⟨f, fd, okf_check_hide F hm g_is_hide, hm, F.kp, F.binds (ps := ["thing"]) fun _ _ _ _ _ _ us hl => match us, hl with | [_], _ => rfl⟩
abbrev st_is_size : Stmt := topS 16
theorem sc_is_size : FnScope ["thing", "one"] ["thing"] (defScope st_is_size) := ⟨rfl, rfl, rfl, by decide +kernel, rfl, by decide +kernel, by decide +kernel⟩
theorem okf_is_size {f : Addr} {fd : FuncData} (F : L2.Fun K "is_size" "is_size" st_is_size f fd) (hm : mg "is_size" = some (.ref f)) (g_is_sized : Good P w K mg base "is_sized" 1 ["thing", "low", "high"] F_is_sized) (g_is_within : Good P w K mg base "is_within" 2 ["thing", "low", "high"] F_is_within) (m_all : mg "all" = none) (c_MOST_SIZE : ∃ t, mg "MOST_SIZE" = some (.int 4 t)) : FnOk P w K mg base (L2.CX P w) 3 f fd ["thing"] (spP K mg 1 F_is_size) := by
  refine ok_def (N := ["thing", "one"]) (ps := ["thing"]) (d := d_is_size) F sc_is_size (fun cdv A outer s H E PP hr => ?_)
  have U := u_of hr
  have nd := sc_is_size.nd
  exact (ss_one
    (ss_ret (se_and (v_call g_is_sized hr pass_top (v_cons (v_var 0) (v_cons se_int (v_cons se_int sa_nil)))) (pe_one (v_blt (L2.cr_all rfl) (OpSLR.opl s_all) m_all bt_all (v_cons (v_lc [("one", 1)] nd (v_ival (v_var 0)) (fun s H C cl fp PP => (g_nm 1 nd)) (fun s H C cl fp PP => (v_call g_is_within hr passL (v_cons (v_var 1) (v_cons se_int (v_cons (v_glI' c_MOST_SIZE) sa_nil)))))) sa_nil))))))
theorem ok_is_size {f : Addr} {fd : FuncData} (F : L2.Fun K "is_size" "is_size" st_is_size f fd) (hm : mg "is_size" = some (.ref f)) (g_is_sized : Good P w K mg base "is_sized" 1 ["thing", "low", "high"] F_is_sized) (g_is_within : Good P w K mg base "is_within" 2 ["thing", "low", "high"] F_is_within) (m_all : mg "all" = none) (c_MOST_SIZE : ∃ t, mg "MOST_SIZE" = some (.int 4 t)) : Good P w K mg base "is_size" 3 ["thing"] F_is_size := ⟨f, fd, okf_is_size F hm g_is_sized g_is_within m_all c_MOST_SIZE, hm, F.kp, F.binds (ps := ["thing"]) fun _ _ _ _ _ _ us hl => match us, hl with | [_], _ => rfl⟩
abbrev st_are_leaf_sizes : Stmt := topS 17
theorem sc_are_leaf_sizes : FnScope ["thing", "size"] ["thing"] (defScope st_are_leaf_sizes) := ⟨rfl, rfl, rfl, by decide +kernel, rfl, by decide +kernel, by decide +kernel⟩
theorem okf_are_leaf_sizes {f : Addr} {fd : FuncData} (F : L2.Fun K "are_leaf_sizes" "are_leaf_sizes" st_are_leaf_sizes f fd) (hm : mg "are_leaf_sizes" = some (.ref f)) (g_is_sized : Good P w K mg base "is_sized" 1 ["thing", "low", "high"] F_is_sized) (g_is_size : Good P w K mg base "is_size" 3 ["thing"] F_is_size) (m_all : mg "all" = none) (c_MOST_LEAVES : ∃ t, mg "MOST_LEAVES" = some (.int 3 t)) : FnOk P w K mg base (L2.CX P w) 4 f fd ["thing"] (spP K mg 1 F_are_leaf_sizes) := by
  refine ok_def (N := ["thing", "size"]) (ps := ["thing"]) (d := d_are_leaf_sizes) F sc_are_leaf_sizes (fun cdv A outer s H E PP hr => ?_)
  have U := u_of hr
  have nd := sc_are_leaf_sizes.nd
  exact (ss_one
    (ss_ret (se_and (v_call g_is_sized hr pass_top (v_cons (v_var 0) (v_cons se_int (v_cons (v_glI' c_MOST_LEAVES) sa_nil)))) (pe_one (v_blt (L2.cr_all rfl) (OpSLR.opl s_all) m_all bt_all (v_cons (v_lc [("size", 1)] nd (v_ival (v_var 0)) (fun s H C cl fp PP => (g_nm 1 nd)) (fun s H C cl fp PP => (v_call g_is_size hr passL (v_cons (v_var 1) sa_nil)))) sa_nil))))))
theorem ok_are_leaf_sizes {f : Addr} {fd : FuncData} (F : L2.Fun K "are_leaf_sizes" "are_leaf_sizes" st_are_leaf_sizes f fd) (hm : mg "are_leaf_sizes" = some (.ref f)) (g_is_sized : Good P w K mg base "is_sized" 1 ["thing", "low", "high"] F_is_sized) (g_is_size : Good P w K mg base "is_size" 3 ["thing"] F_is_size) (m_all : mg "all" = none) (c_MOST_LEAVES : ∃ t, mg "MOST_LEAVES" = some (.int 3 t)) : Good P w K mg base "are_leaf_sizes" 4 ["thing"] F_are_leaf_sizes := ⟨f, fd, okf_are_leaf_sizes F hm g_is_sized g_is_size m_all c_MOST_LEAVES, hm, F.kp, F.binds (ps := ["thing"]) fun _ _ _ _ _ _ us hl => match us, hl with | [_], _ => rfl⟩
abbrev st_check_sizes : Stmt := topS 18
theorem sc_check_sizes : FnScope ["hide", "sizes"] ["hide", "sizes"] (defScope st_check_sizes) := ⟨rfl, rfl, rfl, by decide +kernel, rfl, by decide +kernel, by decide +kernel⟩
theorem okf_check_sizes {f : Addr} {fd : FuncData} (F : L2.Fun K "check_sizes" "check_sizes" st_check_sizes f fd) (hm : mg "check_sizes" = some (.ref f)) (g_check_hide : Good P w K mg base "check_hide" 3 ["thing"] F_check_hide) (g_are_leaf_sizes : Good P w K mg base "are_leaf_sizes" 4 ["thing"] F_are_leaf_sizes) : FnOk P w K mg base (L2.CX P w) 5 f fd ["hide", "sizes"] (spP K mg 2 F_check_sizes) := by
  refine ok_def (N := ["hide", "sizes"]) (ps := ["hide", "sizes"]) (d := d_check_sizes) F sc_check_sizes (fun cdv A outer s H E PP hr => ?_)
  have U := u_of hr
  have nd := sc_check_sizes.nd
  exact (ss_cons (v_expr (v_call g_check_hide hr pass_top (v_cons (v_var 0) sa_nil)))
    (ss_one
    (ss_if (st_not (vt_true (v_call g_are_leaf_sizes hr pass_top (v_cons (v_var 1) sa_nil)))) (ss_one
    v_no) ss_nil)))
theorem ok_check_sizes {f : Addr} {fd : FuncData} (F : L2.Fun K "check_sizes" "check_sizes" st_check_sizes f fd) (hm : mg "check_sizes" = some (.ref f)) (g_check_hide : Good P w K mg base "check_hide" 3 ["thing"] F_check_hide) (g_are_leaf_sizes : Good P w K mg base "are_leaf_sizes" 4 ["thing"] F_are_leaf_sizes) : Good P w K mg base "check_sizes" 5 ["hide", "sizes"] F_check_sizes := ⟨f, fd, okf_check_sizes F hm g_check_hide g_are_leaf_sizes, hm, F.kp, F.binds (ps := ["hide", "sizes"]) fun _ _ _ _ _ _ us hl => match us, hl with | [_, _], _ => rfl⟩
abbrev st_raw_good : Stmt := topS 19
theorem sc_raw_good : FnScope ["hide", "found", "row", "signs", "column", "sign"] ["hide"] (defScope st_raw_good) := ⟨rfl, rfl, rfl, by decide +kernel, rfl, by decide +kernel, by decide +kernel⟩
theorem okf_raw_good {f : Addr} {fd : FuncData} (F : L2.Fun K "raw_good" "raw_good" st_raw_good f fd) (hm : mg "raw_good" = some (.ref f)) (m_enumerate : mg "enumerate" = none) : FnOk P w K mg base (L2.CX P w) 1 f fd ["hide"] (spP K mg 1 F_raw_good) := by
  refine ok_def (N := ["hide", "found", "row", "signs", "column", "sign"]) (ps := ["hide"]) (d := d_raw_good) F sc_raw_good (fun cdv A outer s H E PP hr => ?_)
  have U := u_of hr
  have nd := sc_raw_good.nd
  exact (ss_cons (v_set 1 nd (v_lst sa_nil))
    (ss_cons (v_for own_top (v_enum m_enumerate (v_cons (v_var 0) sa_nil)) (g_tup (g_cons (g_nm 2 nd) (g_cons (g_nm 3 nd) sgs_nil))) (ss_one
    (v_expr (v_ext (L2.pv 1) (v_lcIf [("column", 4), ("sign", 5)] nd (v_enum m_enumerate (v_cons (v_var 3) sa_nil)) (fun s H C cl fp PP => (g_tup (g_cons (g_nm 4 nd) (g_cons (g_nm 5 nd) sgs_nil)))) (fun s H C cl fp PP => (vt_cmp (L2.op_eqD (u64 U)) s_eq (v_var 5) se_str)) (fun s H C cl fp PP => (v_tup (v_cons (v_var 2) (v_cons (v_var 4) sa_nil)))))))))
    (ss_one
    (ss_ret (v_var 1)))))
theorem ok_raw_good {f : Addr} {fd : FuncData} (F : L2.Fun K "raw_good" "raw_good" st_raw_good f fd) (hm : mg "raw_good" = some (.ref f)) (m_enumerate : mg "enumerate" = none) : Good P w K mg base "raw_good" 1 ["hide"] F_raw_good := ⟨f, fd, okf_raw_good F hm m_enumerate, hm, F.kp, F.binds (ps := ["hide"]) fun _ _ _ _ _ _ us hl => match us, hl with | [_], _ => rfl⟩
abbrev st_cells_of_cut : Stmt := topS 20
theorem sc_cells_of_cut : FnScope ["size", "cut", "found", "down", "row", "column", "is_turned", "high", "wide", "along"] ["size", "cut"] (defScope st_cells_of_cut) := ⟨rfl, rfl, rfl, by decide +kernel, rfl, by decide +kernel, by decide +kernel⟩
theorem okf_cells_of_cut {f : Addr} {fd : FuncData} (F : L2.Fun K "cells_of_cut" "cells_of_cut" st_cells_of_cut f fd) (hm : mg "cells_of_cut" = some (.ref f)) (m_range : mg "range" = none) : FnOk P w K mg base (L2.CX P w) 1 f fd ["size", "cut"] (spP K mg 2 F_cells_of_cut) := by
  refine ok_def (N := ["size", "cut", "found", "down", "row", "column", "is_turned", "high", "wide", "along"]) (ps := ["size", "cut"]) (d := d_cells_of_cut) F sc_cells_of_cut (fun cdv A outer s H E PP hr => ?_)
  have U := u_of hr
  have nd := sc_cells_of_cut.nd
  exact (ss_cons (v_asg (v_var 1) (g_tup (g_cons (g_nm 4 nd) (g_cons (g_nm 5 nd) (g_cons (g_nm 6 nd) sgs_nil)))))
    (ss_cons (v_asg (se_if (vt_trueS (L2.pv 6)) (v_rev (v_var 0)) (v_var 0)) (g_tup (g_cons (g_nm 7 nd) (g_cons (g_nm 8 nd) sgs_nil))))
    (ss_cons (v_set 2 nd (v_lst sa_nil))
    (ss_cons (v_for own_top (v_rng1 m_range (v_cons (v_var 7) sa_nil)) (g_nm 3 nd) (ss_one
    (v_expr (v_ext (L2.pv 2) (v_lc [("along", 9)] nd (v_rng1 m_range (v_cons (v_var 8) sa_nil)) (fun s H C cl fp PP => (g_nm 9 nd)) (fun s H C cl fp PP => (v_tup (v_cons (se_bin op_addV s_add (v_var 4) (v_var 3)) (v_cons (se_bin op_addV s_add (v_var 5) (v_var 9)) sa_nil)))))))))
    (ss_one
    (ss_ret (v_var 2)))))))
theorem ok_cells_of_cut {f : Addr} {fd : FuncData} (F : L2.Fun K "cells_of_cut" "cells_of_cut" st_cells_of_cut f fd) (hm : mg "cells_of_cut" = some (.ref f)) (m_range : mg "range" = none) : Good P w K mg base "cells_of_cut" 1 ["size", "cut"] F_cells_of_cut := ⟨f, fd, okf_cells_of_cut F hm m_range, hm, F.kp, F.binds (ps := ["size", "cut"]) fun _ _ _ _ _ _ us hl => match us, hl with | [_, _], _ => rfl⟩
abbrev st_raw_places : Stmt := topS 21
theorem sc_raw_places : FnScope ["hide", "size", "good", "found", "row", "column", "is_turned", "cut", "cell"] ["hide", "size"] (defScope st_raw_places) := ⟨rfl, rfl, rfl, by decide +kernel, rfl, by decide +kernel, by decide +kernel⟩
theorem okf_raw_places {f : Addr} {fd : FuncData} (F : L2.Fun K "raw_places" "raw_places" st_raw_places f fd) (hm : mg "raw_places" = some (.ref f)) (g_raw_good : Good P w K mg base "raw_good" 1 ["hide"] F_raw_good) (g_cells_of_cut : Good P w K mg base "cells_of_cut" 1 ["size", "cut"] F_cells_of_cut) (m_all : mg "all" = none) : FnOk P w K mg base (L2.CX P w) 2 f fd ["hide", "size"] (spP K mg 2 F_raw_places) := by
  refine ok_def (N := ["hide", "size", "good", "found", "row", "column", "is_turned", "cut", "cell"]) (ps := ["hide", "size"]) (d := d_raw_places) F sc_raw_places (fun cdv A outer s H E PP hr => ?_)
  have U := u_of hr
  have nd := sc_raw_places.nd
  exact (ss_cons (v_parT (js := [2, 3]) (so_cons (v_call g_raw_good hr pass_top (v_cons (v_var 0) sa_nil)) (so_all fun PP => (so_cons (v_lst sa_nil) (so_all fun PP => so_nil)))) (gn_cons (gn_cons gn_nil nd) nd))
    (ss_cons (v_for own_top (v_ival (v_var 2)) (g_tup (g_cons (g_nm 4 nd) (g_cons (g_nm 5 nd) sgs_nil))) (ss_one
    (v_for own_top (v_ival (se_if (vt_cmp (L2.op_neD (u64 U)) s_ne (v_ixS U (L2.pv 1) se_int) (v_ixS U (L2.pv 1) se_int)) (v_tup (v_cons se_bl (v_cons se_bl sa_nil))) (v_tup (v_cons se_bl sa_nil)))) (g_nm 6 nd) (ss_cons (v_set 7 nd (v_tup (v_cons (v_var 4) (v_cons (v_var 5) (v_cons (v_var 6) sa_nil)))))
    (ss_one
    (ss_if (vt_true (v_blt (L2.cr_all rfl) (OpSLR.opl s_all) m_all bt_all (v_cons (v_lc [("cell", 8)] nd (v_ival (v_call g_cells_of_cut hr pass_top (v_cons (v_var 1) (v_cons (v_var 7) sa_nil)))) (fun s H C cl fp PP => (g_nm 8 nd)) (fun s H C cl fp PP => (v_cmpS (op_inV (u65 U)) s_in (v_var 8) (L2.pv 2)))) sa_nil))) (ss_one
    (v_expr (v_app (L2.pv 3) (v_var 7)))) ss_nil))))))
    (ss_one
    (ss_ret (v_var 3)))))
theorem ok_raw_places {f : Addr} {fd : FuncData} (F : L2.Fun K "raw_places" "raw_places" st_raw_places f fd) (hm : mg "raw_places" = some (.ref f)) (g_raw_good : Good P w K mg base "raw_good" 1 ["hide"] F_raw_good) (g_cells_of_cut : Good P w K mg base "cells_of_cut" 1 ["size", "cut"] F_cells_of_cut) (m_all : mg "all" = none) : Good P w K mg base "raw_places" 2 ["hide", "size"] F_raw_places := ⟨f, fd, okf_raw_places F hm g_raw_good g_cells_of_cut m_all, hm, F.kp, F.binds (ps := ["hide", "size"]) fun _ _ _ _ _ _ us hl => match us, hl with | [_, _], _ => rfl⟩
abbrev st_rows_of_cuts : Stmt := topS 22
theorem sc_rows_of_cuts : FnScope ["hide", "sizes", "found", "size", "places", "longer", "row", "used", "cut", "cells", "cell"] ["hide", "sizes"] (defScope st_rows_of_cuts) := ⟨rfl, rfl, rfl, by decide +kernel, rfl, by decide +kernel, by decide +kernel⟩
theorem okf_rows_of_cuts {f : Addr} {fd : FuncData} (F : L2.Fun K "rows_of_cuts" "rows_of_cuts" st_rows_of_cuts f fd) (hm : mg "rows_of_cuts" = some (.ref f)) (g_raw_places : Good P w K mg base "raw_places" 2 ["hide", "size"] F_raw_places) (g_cells_of_cut : Good P w K mg base "cells_of_cut" 1 ["size", "cut"] F_cells_of_cut) (m_tuple : mg "tuple" = none) (m_any : mg "any" = none) : FnOk P w K mg base (L2.CX P w) 3 f fd ["hide", "sizes"] (spP K mg 2 F_rows_of_cuts) := by
  refine ok_def (N := ["hide", "sizes", "found", "size", "places", "longer", "row", "used", "cut", "cells", "cell"]) (ps := ["hide", "sizes"]) (d := d_rows_of_cuts) F sc_rows_of_cuts (fun cdv A outer s H E PP hr => ?_)
  have U := u_of hr
  have nd := sc_rows_of_cuts.nd
  exact (ss_cons (v_set 2 nd (v_lst (v_cons (v_lst (v_cons (v_tup (v_cons (v_tup sa_nil) (v_cons (v_tup sa_nil) sa_nil))) sa_nil)) sa_nil)))
    (ss_cons (v_for own_top (v_ival (v_var 1)) (g_nm 3 nd) (ss_cons (v_setLc [("cut", 8)] nd (v_ival (v_call g_raw_places hr pass_top (v_cons (v_var 0) (v_cons (v_var 3) sa_nil)))) (fun s H C cl fp PP => (g_nm 8 nd)) (fun s H C cl fp PP => (v_tup (v_cons (v_var 8) (v_cons (v_bty L2.call_tuple_of (OpSLR.opl s_tuple) m_tuple bt_tuple (v_cons (v_call g_cells_of_cut hr passL (v_cons (v_var 3) (v_cons (v_var 8) sa_nil))) sa_nil)) sa_nil)))))
    (ss_cons (v_set 5 nd (v_lst sa_nil))
    (ss_cons (v_for own_top (v_ival (v_ixS U (L2.pv 2) (se_un L2.un_neg s_neg se_int))) (g_tup (g_cons (g_nm 6 nd) (g_cons (g_nm 7 nd) sgs_nil))) (ss_one
    (v_for own_top (v_ival (v_var 4)) (g_tup (g_cons (g_nm 8 nd) (g_cons (g_nm 9 nd) sgs_nil))) (ss_one
    (ss_if (st_not (vt_true (v_blt (L2.cr_any rfl) (OpSLR.opl s_any) m_any bt_any (v_cons (v_lc [("cell", 10)] nd (v_ival (v_var 9)) (fun s H C cl fp PP => (g_nm 10 nd)) (fun s H C cl fp PP => (v_cmpS (op_inV (u65 U)) s_in (v_var 10) (L2.pv 7)))) sa_nil)))) (ss_one
    (v_expr (v_app (L2.pv 5) (v_tup (v_cons (se_bin op_addV s_add (v_var 6) (v_tup (v_cons (v_var 8) sa_nil))) (v_cons (se_bin op_addV s_add (v_var 7) (v_var 9)) sa_nil)))))) ss_nil)))))
    (ss_one
    (v_expr (v_app (L2.pv 2) (v_var 5))))))))
    (ss_one
    (ss_ret (v_var 2)))))
theorem ok_rows_of_cuts {f : Addr} {fd : FuncData} (F : L2.Fun K "rows_of_cuts" "rows_of_cuts" st_rows_of_cuts f fd) (hm : mg "rows_of_cuts" = some (.ref f)) (g_raw_places : Good P w K mg base "raw_places" 2 ["hide", "size"] F_raw_places) (g_cells_of_cut : Good P w K mg base "cells_of_cut" 1 ["size", "cut"] F_cells_of_cut) (m_tuple : mg "tuple" = none) (m_any : mg "any" = none) : Good P w K mg base "rows_of_cuts" 3 ["hide", "sizes"] F_rows_of_cuts := ⟨f, fd, okf_rows_of_cuts F hm g_raw_places g_cells_of_cut m_tuple m_any, hm, F.kp, F.binds (ps := ["hide", "sizes"]) fun _ _ _ _ _ _ us hl => match us, hl with | [_, _], _ => rfl⟩
abbrev st_hide_cuts : Stmt := topS 23
theorem sc_hide_cuts : FnScope ["hide", "sizes"] ["hide", "sizes"] (defScope st_hide_cuts) := ⟨rfl, rfl, rfl, by decide +kernel, rfl, by decide +kernel, by decide +kernel⟩
theorem okf_hide_cuts {f : Addr} {fd : FuncData} (F : L2.Fun K "hide_cuts" "hide_cuts" st_hide_cuts f fd) (hm : mg "hide_cuts" = some (.ref f)) (g_rows_of_cuts : Good P w K mg base "rows_of_cuts" 3 ["hide", "sizes"] F_rows_of_cuts) : FnOk P w K mg base (L2.CX P w) 4 f fd ["hide", "sizes"] (spP K mg 2 F_hide_cuts) := by
  refine ok_def (N := ["hide", "sizes"]) (ps := ["hide", "sizes"]) (d := d_hide_cuts) F sc_hide_cuts (fun cdv A outer s H E PP hr => ?_)
  have U := u_of hr
  have nd := sc_hide_cuts.nd
  exact (ss_one
    (ss_ret (v_ix U (v_call g_rows_of_cuts hr pass_top (v_cons (v_var 0) (v_cons (v_var 1) sa_nil))) (se_un L2.un_neg s_neg se_int))))
theorem ok_hide_cuts {f : Addr} {fd : FuncData} (F : L2.Fun K "hide_cuts" "hide_cuts" st_hide_cuts f fd) (hm : mg "hide_cuts" = some (.ref f)) (g_rows_of_cuts : Good P w K mg base "rows_of_cuts" 3 ["hide", "sizes"] F_rows_of_cuts) : Good P w K mg base "hide_cuts" 4 ["hide", "sizes"] F_hide_cuts := ⟨f, fd, okf_hide_cuts F hm g_rows_of_cuts, hm, F.kp, F.binds (ps := ["hide", "sizes"]) fun _ _ _ _ _ _ us hl => match us, hl with | [_, _], _ => rfl⟩
abbrev st_needed_cells : Stmt := topS 24
theorem sc_needed_cells : FnScope ["sizes", "high", "wide"] ["sizes"] (defScope st_needed_cells) := ⟨rfl, rfl, rfl, by decide +kernel, rfl, by decide +kernel, by decide +kernel⟩
theorem okf_needed_cells {f : Addr} {fd : FuncData} (F : L2.Fun K "needed_cells" "needed_cells" st_needed_cells f fd) (hm : mg "needed_cells" = some (.ref f)) (m_sum : mg "sum" = none) : FnOk P w K mg base (L2.CX P w) 1 f fd ["sizes"] (spP K mg 1 F_needed_cells) := by
  refine ok_def (N := ["sizes", "high", "wide"]) (ps := ["sizes"]) (d := d_needed_cells) F sc_needed_cells (fun cdv A outer s H E PP hr => ?_)
  have U := u_of hr
  have nd := sc_needed_cells.nd
  exact (ss_one
    (ss_ret (v_blt (call_sumV rfl) (OpSLR.opl s_sum) m_sum bt_sum (v_cons (v_lc [("high", 1), ("wide", 2)] nd (v_ival (v_var 0)) (fun s H C cl fp PP => (g_tup (g_cons (g_nm 1 nd) (g_cons (g_nm 2 nd) sgs_nil)))) (fun s H C cl fp PP => (se_bin op_mulV s_mul (v_var 1) (v_var 2)))) sa_nil))))
theorem ok_needed_cells {f : Addr} {fd : FuncData} (F : L2.Fun K "needed_cells" "needed_cells" st_needed_cells f fd) (hm : mg "needed_cells" = some (.ref f)) (m_sum : mg "sum" = none) : Good P w K mg base "needed_cells" 1 ["sizes"] F_needed_cells := ⟨f, fd, okf_needed_cells F hm m_sum, hm, F.kp, F.binds (ps := ["sizes"]) fun _ _ _ _ _ _ us hl => match us, hl with | [_], _ => rfl⟩
abbrev st_most_cut : Stmt := topS 25
theorem sc_most_cut : FnScope ["hide", "sizes", "lots", "most", "lot", "leaf"] ["hide", "sizes"] (defScope st_most_cut) := ⟨rfl, rfl, rfl, by decide +kernel, rfl, by decide +kernel, by decide +kernel⟩
theorem okf_most_cut {f : Addr} {fd : FuncData} (F : L2.Fun K "most_cut" "most_cut" st_most_cut f fd) (hm : mg "most_cut" = some (.ref f)) (g_check_sizes : Good P w K mg base "check_sizes" 5 ["hide", "sizes"] F_check_sizes) (g_all_lots : Good P w K mg base "all_lots" 1 ["some"] F_all_lots) (g_hide_cuts : Good P w K mg base "hide_cuts" 4 ["hide", "sizes"] F_hide_cuts) (m_list : mg "list" = none) (m_range : mg "range" = none) (m_len : mg "len" = none) (m_max : mg "max" = none) (m_min : mg "min" = none) : FnOk P w K mg base (L2.CX P w) 6 f fd ["hide", "sizes"] (spP K mg 2 F_most_cut) := by
  refine ok_def (N := ["hide", "sizes", "lots", "most", "lot", "leaf"]) (ps := ["hide", "sizes"]) (d := d_most_cut) F sc_most_cut (fun cdv A outer s H E PP hr => ?_)
  have U := u_of hr
  have nd := sc_most_cut.nd
  exact (ss_cons (v_expr (v_call g_check_sizes hr pass_top (v_cons (v_var 0) (v_cons (v_var 1) sa_nil))))
    (ss_cons (v_setLcIf [("lot", 4)] nd (v_ival (v_call g_all_lots hr pass_top (v_cons (v_bty (call_listV rfl) (OpSLR.opl s_list) m_list bt_list (v_cons (v_bty cr_range1 s_range1 m_range bt_range (v_cons (v_bltS call_lenV s_len m_len bt_len (L2.pv 1)) sa_nil)) sa_nil)) sa_nil))) (fun s H C cl fp PP => (g_nm 4 nd)) (fun s H C cl fp PP => (vt_true (v_call g_hide_cuts hr passL (v_cons (v_var 0) (v_cons (v_lc [("leaf", 5)] nd (v_ival (v_var 4)) (fun s H C cl fp PP => (g_nm 5 nd)) (fun s H C cl fp PP => (v_ixS U (L2.pv 1) (v_var 5)))) sa_nil))))) (fun s H C cl fp PP => (v_var 4)))
    (ss_cons (v_set 3 nd (v_blt (call_maxV rfl (u64 U)) (OpSLR.opl s_max) m_max bt_max (v_cons (v_lc [("lot", 4)] nd (v_ival (v_var 2)) (fun s H C cl fp PP => (g_nm 4 nd)) (fun s H C cl fp PP => (v_bltS call_lenV s_len m_len bt_len (L2.pv 4)))) sa_nil)))
    (ss_one
    (ss_ret (v_tup (v_cons (v_var 3) (v_cons (v_blt (call_minV rfl (u64 U)) (OpSLR.opl s_min) m_min bt_min (v_cons (v_lcIf [("lot", 4)] nd (v_ival (v_var 2)) (fun s H C cl fp PP => (g_nm 4 nd)) (fun s H C cl fp PP => (vt_cmp (L2.op_eqD (u64 U)) s_eq (v_bltS call_lenV s_len m_len bt_len (L2.pv 4)) (v_var 3))) (fun s H C cl fp PP => (v_var 4))) sa_nil)) sa_nil))))))))
theorem ok_most_cut {f : Addr} {fd : FuncData} (F : L2.Fun K "most_cut" "most_cut" st_most_cut f fd) (hm : mg "most_cut" = some (.ref f)) (g_check_sizes : Good P w K mg base "check_sizes" 5 ["hide", "sizes"] F_check_sizes) (g_all_lots : Good P w K mg base "all_lots" 1 ["some"] F_all_lots) (g_hide_cuts : Good P w K mg base "hide_cuts" 4 ["hide", "sizes"] F_hide_cuts) (m_list : mg "list" = none) (m_range : mg "range" = none) (m_len : mg "len" = none) (m_max : mg "max" = none) (m_min : mg "min" = none) : Good P w K mg base "most_cut" 6 ["hide", "sizes"] F_most_cut := ⟨f, fd, okf_most_cut F hm g_check_sizes g_all_lots g_hide_cuts m_list m_range m_len m_max m_min, hm, F.kp, F.binds (ps := ["hide", "sizes"]) fun _ _ _ _ _ _ us hl => match us, hl with | [_, _], _ => rfl⟩
abbrev st_largest_leaf : Stmt := topS 26
theorem sc_largest_leaf : FnScope ["hide", "high", "good", "best", "wide", "row", "column", "cells", "cell"] ["hide"] (defScope st_largest_leaf) := ⟨rfl, rfl, rfl, by decide +kernel, rfl, by decide +kernel, by decide +kernel⟩
theorem okf_largest_leaf {f : Addr} {fd : FuncData} (F : L2.Fun K "largest_leaf" "largest_leaf" st_largest_leaf f fd) (hm : mg "largest_leaf" = some (.ref f)) (g_check_hide : Good P w K mg base "check_hide" 3 ["thing"] F_check_hide) (g_raw_good : Good P w K mg base "raw_good" 1 ["hide"] F_raw_good) (g_cells_of_cut : Good P w K mg base "cells_of_cut" 1 ["size", "cut"] F_cells_of_cut) (m_range : mg "range" = none) (m_all : mg "all" = none) (c_MOST_SIDE : ∃ t, mg "MOST_SIDE" = some (.int 5 t)) : FnOk P w K mg base (L2.CX P w) 4 f fd ["hide"] (spP K mg 1 F_largest_leaf) := by
  refine ok_def (N := ["hide", "high", "good", "best", "wide", "row", "column", "cells", "cell"]) (ps := ["hide"]) (d := d_largest_leaf) F sc_largest_leaf (fun cdv A outer s H E PP hr => ?_)
  have U := u_of hr
  have nd := sc_largest_leaf.nd
  exact (ss_cons (v_expr (v_call g_check_hide hr pass_top (v_cons (v_var 0) sa_nil)))
    (ss_cons (v_parT (js := [2, 3]) (so_cons (v_call g_raw_good hr pass_top (v_cons (v_var 0) sa_nil)) (so_all fun PP => (so_cons (v_tup (v_cons se_int (v_cons se_non sa_nil))) (so_all fun PP => so_nil)))) (gn_cons (gn_cons gn_nil nd) nd))
    (ss_cons (v_for own_top (v_rng2 m_range (v_cons se_int (v_cons (se_bin op_addV s_add (v_glI' c_MOST_SIDE) se_int) sa_nil))) (g_nm 1 nd) (ss_one
    (v_for own_top (v_rng2 m_range (v_cons se_int (v_cons (se_bin op_addV s_add (v_glI' c_MOST_SIDE) se_int) sa_nil))) (g_nm 4 nd) (ss_one
    (v_for own_top (v_ival (v_var 2)) (g_tup (g_cons (g_nm 5 nd) (g_cons (g_nm 6 nd) sgs_nil))) (ss_cons (v_set 7 nd (v_call g_cells_of_cut hr pass_top (v_cons (v_tup (v_cons (v_var 1) (v_cons (v_var 4) sa_nil))) (v_cons (v_tup (v_cons (v_var 5) (v_cons (v_var 6) (v_cons se_bl sa_nil)))) sa_nil))))
    (ss_one
    (ss_if (L2.PW.pt (sw_and (vt_cmp (op_gtV (u64 U)) (s_ord fun _ _ => rfl) (se_bin op_mulV s_mul (v_var 1) (v_var 4)) (v_ixS U (L2.pv 3) se_int)) (L2.pw_and1 (vt_true (v_blt (L2.cr_all rfl) (OpSLR.opl s_all) m_all bt_all (v_cons (v_lc [("cell", 8)] nd (v_ival (v_var 7)) (fun s H C cl fp PP => (g_nm 8 nd)) (fun s H C cl fp PP => (v_cmpS (op_inV (u65 U)) s_in (v_var 8) (L2.pv 2)))) sa_nil)))))) (ss_one
    (v_set 3 nd (v_tup (v_cons (se_bin op_mulV s_mul (v_var 1) (v_var 4)) (v_cons (v_tup (v_cons (v_var 1) (v_cons (v_var 4) sa_nil))) sa_nil))))) ss_nil))))))))
    (ss_one
    (ss_ret (v_var 3))))))
theorem ok_largest_leaf {f : Addr} {fd : FuncData} (F : L2.Fun K "largest_leaf" "largest_leaf" st_largest_leaf f fd) (hm : mg "largest_leaf" = some (.ref f)) (g_check_hide : Good P w K mg base "check_hide" 3 ["thing"] F_check_hide) (g_raw_good : Good P w K mg base "raw_good" 1 ["hide"] F_raw_good) (g_cells_of_cut : Good P w K mg base "cells_of_cut" 1 ["size", "cut"] F_cells_of_cut) (m_range : mg "range" = none) (m_all : mg "all" = none) (c_MOST_SIDE : ∃ t, mg "MOST_SIDE" = some (.int 5 t)) : Good P w K mg base "largest_leaf" 4 ["hide"] F_largest_leaf := ⟨f, fd, okf_largest_leaf F hm g_check_hide g_raw_good g_cells_of_cut m_range m_all c_MOST_SIDE, hm, F.kp, F.binds (ps := ["hide"]) fun _ _ _ _ _ _ us hl => match us, hl with | [_], _ => rfl⟩
abbrev st_waste_of : Stmt := topS 27
theorem sc_waste_of : FnScope ["hide", "sizes"] ["hide", "sizes"] (defScope st_waste_of) := ⟨rfl, rfl, rfl, by decide +kernel, rfl, by decide +kernel, by decide +kernel⟩
theorem okf_waste_of {f : Addr} {fd : FuncData} (F : L2.Fun K "waste_of" "waste_of" st_waste_of f fd) (hm : mg "waste_of" = some (.ref f)) (g_check_sizes : Good P w K mg base "check_sizes" 5 ["hide", "sizes"] F_check_sizes) (g_hide_cuts : Good P w K mg base "hide_cuts" 4 ["hide", "sizes"] F_hide_cuts) (g_raw_good : Good P w K mg base "raw_good" 1 ["hide"] F_raw_good) (g_needed_cells : Good P w K mg base "needed_cells" 1 ["sizes"] F_needed_cells) (m_len : mg "len" = none) : FnOk P w K mg base (L2.CX P w) 6 f fd ["hide", "sizes"] (spP K mg 2 F_waste_of) := by
  refine ok_def (N := ["hide", "sizes"]) (ps := ["hide", "sizes"]) (d := d_waste_of) F sc_waste_of (fun cdv A outer s H E PP hr => ?_)
  have U := u_of hr
  have nd := sc_waste_of.nd
  exact (ss_cons (v_expr (v_call g_check_sizes hr pass_top (v_cons (v_var 0) (v_cons (v_var 1) sa_nil))))
    (ss_one
    (ss_ret (se_if (vt_true (v_call g_hide_cuts hr pass_top (v_cons (v_var 0) (v_cons (v_var 1) sa_nil)))) (se_bin L2.op_sub s_sub (v_blt call_lenV (OpSLR.opl s_len) m_len bt_len (v_cons (v_call g_raw_good hr pass_top (v_cons (v_var 0) sa_nil)) sa_nil)) (v_call g_needed_cells hr pass_top (v_cons (v_var 1) sa_nil))) se_non))))
theorem ok_waste_of {f : Addr} {fd : FuncData} (F : L2.Fun K "waste_of" "waste_of" st_waste_of f fd) (hm : mg "waste_of" = some (.ref f)) (g_check_sizes : Good P w K mg base "check_sizes" 5 ["hide", "sizes"] F_check_sizes) (g_hide_cuts : Good P w K mg base "hide_cuts" 4 ["hide", "sizes"] F_hide_cuts) (g_raw_good : Good P w K mg base "raw_good" 1 ["hide"] F_raw_good) (g_needed_cells : Good P w K mg base "needed_cells" 1 ["sizes"] F_needed_cells) (m_len : mg "len" = none) : Good P w K mg base "waste_of" 6 ["hide", "sizes"] F_waste_of := ⟨f, fd, okf_waste_of F hm g_check_sizes g_hide_cuts g_raw_good g_needed_cells m_len, hm, F.kp, F.binds (ps := ["hide", "sizes"]) fun _ _ _ _ _ _ us hl => match us, hl with | [_, _], _ => rfl⟩
abbrev st_needed_hide_cells : Stmt := topS 28
theorem sc_needed_hide_cells : FnScope ["hide", "sizes", "rows", "cuts", "cells", "cell"] ["hide", "sizes"] (defScope st_needed_hide_cells) := ⟨rfl, rfl, rfl, by decide +kernel, rfl, by decide +kernel, by decide +kernel⟩
theorem okf_needed_hide_cells {f : Addr} {fd : FuncData} (F : L2.Fun K "needed_hide_cells" "needed_hide_cells" st_needed_hide_cells f fd) (hm : mg "needed_hide_cells" = some (.ref f)) (g_check_sizes : Good P w K mg base "check_sizes" 5 ["hide", "sizes"] F_check_sizes) (g_hide_cuts : Good P w K mg base "hide_cuts" 4 ["hide", "sizes"] F_hide_cuts) (g_raw_good : Good P w K mg base "raw_good" 1 ["hide"] F_raw_good) (m_tuple : mg "tuple" = none) (m_all : mg "all" = none) : FnOk P w K mg base (L2.CX P w) 6 f fd ["hide", "sizes"] (spP K mg 2 F_needed_hide_cells) := by
  refine ok_def (N := ["hide", "sizes", "rows", "cuts", "cells", "cell"]) (ps := ["hide", "sizes"]) (d := d_needed_hide_cells) F sc_needed_hide_cells (fun cdv A outer s H E PP hr => ?_)
  have U := u_of hr
  have nd := sc_needed_hide_cells.nd
  exact (ss_cons (v_expr (v_call g_check_sizes hr pass_top (v_cons (v_var 0) (v_cons (v_var 1) sa_nil))))
    (ss_cons (v_set 2 nd (v_lc [("cuts", 3), ("cells", 4)] nd (v_ival (v_call g_hide_cuts hr pass_top (v_cons (v_var 0) (v_cons (v_var 1) sa_nil)))) (fun s H C cl fp PP => (g_tup (g_cons (g_nm 3 nd) (g_cons (g_nm 4 nd) sgs_nil)))) (fun s H C cl fp PP => (v_var 4))))
    (ss_one
    (ss_ret (v_bty L2.call_tuple_of (OpSLR.opl s_tuple) m_tuple bt_tuple (v_cons (v_lcIf [("cell", 5)] nd (v_ival (v_call g_raw_good hr pass_top (v_cons (v_var 0) sa_nil))) (fun s H C cl fp PP => (g_nm 5 nd)) (fun s H C cl fp PP => (L2.PW.pt (sw_and (vt_trueS (L2.pv 2)) (L2.pw_and1 (vt_true (v_blt (L2.cr_all rfl) (OpSLR.opl s_all) m_all bt_all (v_cons (v_lc [("cells", 4)] nd (v_ival (v_var 2)) (fun s H C cl fp PP => (g_nm 4 nd)) (fun s H C cl fp PP => (v_cmpS (op_inV (u65 U)) s_in (v_var 5) (L2.pv 4)))) sa_nil))))))) (fun s H C cl fp PP => (v_var 5))) sa_nil))))))
theorem ok_needed_hide_cells {f : Addr} {fd : FuncData} (F : L2.Fun K "needed_hide_cells" "needed_hide_cells" st_needed_hide_cells f fd) (hm : mg "needed_hide_cells" = some (.ref f)) (g_check_sizes : Good P w K mg base "check_sizes" 5 ["hide", "sizes"] F_check_sizes) (g_hide_cuts : Good P w K mg base "hide_cuts" 4 ["hide", "sizes"] F_hide_cuts) (g_raw_good : Good P w K mg base "raw_good" 1 ["hide"] F_raw_good) (m_tuple : mg "tuple" = none) (m_all : mg "all" = none) : Good P w K mg base "needed_hide_cells" 6 ["hide", "sizes"] F_needed_hide_cells := ⟨f, fd, okf_needed_hide_cells F hm g_check_sizes g_hide_cuts g_raw_good m_tuple m_all, hm, F.kp, F.binds (ps := ["hide", "sizes"]) fun _ _ _ _ _ _ us hl => match us, hl with | [_, _], _ => rfl⟩
abbrev st_raw_hole : Stmt := topS 29
theorem sc_raw_hole : FnScope ["hide", "cell", "signs", "row", "column"] ["hide", "cell"] (defScope st_raw_hole) := ⟨rfl, rfl, rfl, by decide +kernel, rfl, by decide +kernel, by decide +kernel⟩
theorem okf_raw_hole {f : Addr} {fd : FuncData} (F : L2.Fun K "raw_hole" "raw_hole" st_raw_hole f fd) (hm : mg "raw_hole" = some (.ref f)) : FnOk P w K mg base (L2.CX P w) 1 f fd ["hide", "cell"] (spP K mg 2 F_raw_hole) := by
  refine ok_def (N := ["hide", "cell", "signs", "row", "column"]) (ps := ["hide", "cell"]) (d := d_raw_hole) F sc_raw_hole (fun cdv A outer s H E PP hr => ?_)
  have U := u_of hr
  have nd := sc_raw_hole.nd
  exact (ss_cons (v_asg (v_var 1) (g_tup (g_cons (g_nm 3 nd) (g_cons (g_nm 4 nd) sgs_nil))))
    (ss_cons (v_set 2 nd (se_bin op_addV s_add (se_bin op_addV s_add (v_sl (v_ixS U (L2.pv 0) (v_var 3)) so_none (so_some (v_var 4))) se_str) (v_sl (v_ixS U (L2.pv 0) (v_var 3)) (so_some (se_bin op_addV s_add (v_var 4) se_int)) so_none)))
    (ss_one
    (ss_ret (se_bin op_addV s_add (se_bin op_addV s_add (v_sl (v_var 0) so_none (so_some (v_var 3))) (v_tup (v_cons (v_var 2) sa_nil))) (v_sl (v_var 0) (so_some (se_bin op_addV s_add (v_var 3) se_int)) so_none))))))
theorem ok_raw_hole {f : Addr} {fd : FuncData} (F : L2.Fun K "raw_hole" "raw_hole" st_raw_hole f fd) (hm : mg "raw_hole" = some (.ref f)) : Good P w K mg base "raw_hole" 1 ["hide", "cell"] F_raw_hole := ⟨f, fd, okf_raw_hole F hm, hm, F.kp, F.binds (ps := ["hide", "cell"]) fun _ _ _ _ _ _ us hl => match us, hl with | [_, _], _ => rfl⟩
abbrev st_with_hole : Stmt := topS 30
theorem sc_with_hole : FnScope ["hide", "cell", "one"] ["hide", "cell"] (defScope st_with_hole) := ⟨rfl, rfl, rfl, by decide +kernel, rfl, by decide +kernel, by decide +kernel⟩
theorem okf_with_hole {f : Addr} {fd : FuncData} (F : L2.Fun K "with_hole" "with_hole" st_with_hole f fd) (hm : mg "with_hole" = some (.ref f)) (g_check_hide : Good P w K mg base "check_hide" 3 ["thing"] F_check_hide) (g_is_sized : Good P w K mg base "is_sized" 1 ["thing", "low", "high"] F_is_sized) (g_is_within : Good P w K mg base "is_within" 2 ["thing", "low", "high"] F_is_within) (g_raw_good : Good P w K mg base "raw_good" 1 ["hide"] F_raw_good) (g_raw_hole : Good P w K mg base "raw_hole" 1 ["hide", "cell"] F_raw_hole) (m_all : mg "all" = none) (c_MOST_SIDE : ∃ t, mg "MOST_SIDE" = some (.int 5 t)) : FnOk P w K mg base (L2.CX P w) 4 f fd ["hide", "cell"] (spP K mg 2 F_with_hole) := by
  refine ok_def (N := ["hide", "cell", "one"]) (ps := ["hide", "cell"]) (d := d_with_hole) F sc_with_hole (fun cdv A outer s H E PP hr => ?_)
  have U := u_of hr
  have nd := sc_with_hole.nd
  exact (ss_cons (v_expr (v_call g_check_hide hr pass_top (v_cons (v_var 0) sa_nil)))
    (ss_cons (ss_if (L2.PW.pt (sw_or (st_not (vt_true (v_call g_is_sized hr pass_top (v_cons (v_var 1) (v_cons se_int (v_cons se_int sa_nil)))))) (L2.pw_or1 (st_not (vt_true (v_blt (L2.cr_all rfl) (OpSLR.opl s_all) m_all bt_all (v_cons (v_lc [("one", 2)] nd (v_ival (v_var 1)) (fun s H C cl fp PP => (g_nm 2 nd)) (fun s H C cl fp PP => (v_call g_is_within hr passL (v_cons (v_var 2) (v_cons se_int (v_cons (se_bin L2.op_sub s_sub (v_glI' c_MOST_SIDE) se_int) sa_nil)))))) sa_nil))))))) (ss_one
    v_no) ss_nil)
    (ss_cons (ss_if (vt_cmp (op_notInV (u65 U)) (OpSR2.ops s_notIn) (v_var 1) (v_call g_raw_good hr pass_top (v_cons (v_var 0) sa_nil))) (ss_one
    v_no) ss_nil)
    (ss_one
    (ss_ret (v_call g_raw_hole hr pass_top (v_cons (v_var 0) (v_cons (v_var 1) sa_nil))))))))
theorem ok_with_hole {f : Addr} {fd : FuncData} (F : L2.Fun K "with_hole" "with_hole" st_with_hole f fd) (hm : mg "with_hole" = some (.ref f)) (g_check_hide : Good P w K mg base "check_hide" 3 ["thing"] F_check_hide) (g_is_sized : Good P w K mg base "is_sized" 1 ["thing", "low", "high"] F_is_sized) (g_is_within : Good P w K mg base "is_within" 2 ["thing", "low", "high"] F_is_within) (g_raw_good : Good P w K mg base "raw_good" 1 ["hide"] F_raw_good) (g_raw_hole : Good P w K mg base "raw_hole" 1 ["hide", "cell"] F_raw_hole) (m_all : mg "all" = none) (c_MOST_SIDE : ∃ t, mg "MOST_SIDE" = some (.int 5 t)) : Good P w K mg base "with_hole" 4 ["hide", "cell"] F_with_hole := ⟨f, fd, okf_with_hole F hm g_check_hide g_is_sized g_is_within g_raw_good g_raw_hole m_all c_MOST_SIDE, hm, F.kp, F.binds (ps := ["hide", "cell"]) fun _ _ _ _ _ _ us hl => match us, hl with | [_, _], _ => rfl⟩
abbrev st_harmful_holes : Stmt := topS 31
theorem sc_harmful_holes : FnScope ["hide", "sizes", "cell"] ["hide", "sizes"] (defScope st_harmful_holes) := ⟨rfl, rfl, rfl, by decide +kernel, rfl, by decide +kernel, by decide +kernel⟩
theorem okf_harmful_holes {f : Addr} {fd : FuncData} (F : L2.Fun K "harmful_holes" "harmful_holes" st_harmful_holes f fd) (hm : mg "harmful_holes" = some (.ref f)) (g_check_sizes : Good P w K mg base "check_sizes" 5 ["hide", "sizes"] F_check_sizes) (g_hide_cuts : Good P w K mg base "hide_cuts" 4 ["hide", "sizes"] F_hide_cuts) (g_raw_good : Good P w K mg base "raw_good" 1 ["hide"] F_raw_good) (g_raw_hole : Good P w K mg base "raw_hole" 1 ["hide", "cell"] F_raw_hole) (m_tuple : mg "tuple" = none) : FnOk P w K mg base (L2.CX P w) 6 f fd ["hide", "sizes"] (spP K mg 2 F_harmful_holes) := by
  refine ok_def (N := ["hide", "sizes", "cell"]) (ps := ["hide", "sizes"]) (d := d_harmful_holes) F sc_harmful_holes (fun cdv A outer s H E PP hr => ?_)
  have U := u_of hr
  have nd := sc_harmful_holes.nd
  exact (ss_cons (v_expr (v_call g_check_sizes hr pass_top (v_cons (v_var 0) (v_cons (v_var 1) sa_nil))))
    (ss_cons (ss_if (st_not (vt_true (v_call g_hide_cuts hr pass_top (v_cons (v_var 0) (v_cons (v_var 1) sa_nil))))) (ss_one
    (ss_ret (v_tup sa_nil))) ss_nil)
    (ss_one
    (ss_ret (v_bty L2.call_tuple_of (OpSLR.opl s_tuple) m_tuple bt_tuple (v_cons (v_lcIf [("cell", 2)] nd (v_ival (v_call g_raw_good hr pass_top (v_cons (v_var 0) sa_nil))) (fun s H C cl fp PP => (g_nm 2 nd)) (fun s H C cl fp PP => (st_not (vt_true (v_call g_hide_cuts hr passL (v_cons (v_call g_raw_hole hr passL (v_cons (v_var 0) (v_cons (v_var 2) sa_nil))) (v_cons (v_var 1) sa_nil)))))) (fun s H C cl fp PP => (v_var 2))) sa_nil))))))
theorem ok_harmful_holes {f : Addr} {fd : FuncData} (F : L2.Fun K "harmful_holes" "harmful_holes" st_harmful_holes f fd) (hm : mg "harmful_holes" = some (.ref f)) (g_check_sizes : Good P w K mg base "check_sizes" 5 ["hide", "sizes"] F_check_sizes) (g_hide_cuts : Good P w K mg base "hide_cuts" 4 ["hide", "sizes"] F_hide_cuts) (g_raw_good : Good P w K mg base "raw_good" 1 ["hide"] F_raw_good) (g_raw_hole : Good P w K mg base "raw_hole" 1 ["hide", "cell"] F_raw_hole) (m_tuple : mg "tuple" = none) : Good P w K mg base "harmful_holes" 6 ["hide", "sizes"] F_harmful_holes := ⟨f, fd, okf_harmful_holes F hm g_check_sizes g_hide_cuts g_raw_good g_raw_hole m_tuple, hm, F.kp, F.binds (ps := ["hide", "sizes"]) fun _ _ _ _ _ _ us hl => match us, hl with | [_, _], _ => rfl⟩
abbrev st__law_hand : Stmt := topS 33
theorem sc__law_hand : FnScope ["script", "cells", "cell"] ["script"] (defScope st__law_hand) := ⟨rfl, rfl, rfl, by decide +kernel, rfl, by decide +kernel, by decide +kernel⟩
theorem okf__law_hand {f : Addr} {fd : FuncData} (F : L2.Fun K "_law_hand" "_law_hand" st__law_hand f fd) (hm : mg "_law_hand" = some (.ref f)) (m_abs : mg "abs" = none) (m_int : mg "int" = none) (m_len : mg "len" = none) : FnOk P w K mg base (L2.CX P w) 1 f fd ["script"] (spP K mg 1 F__law_hand) := by
  refine ok_def (N := ["script", "cells", "cell"]) (ps := ["script"]) (d := d__law_hand) F sc__law_hand (fun cdv A outer s H E PP hr => ?_)
  have U := u_of hr
  have nd := sc__law_hand.nd
  exact (ss_cons (v_setLc [("cell", 2)] nd (v_ival (v_sl (v_var 0) so_none (so_some se_int))) (fun s H C cl fp PP => (g_nm 2 nd)) (fun s H C cl fp PP => (v_blt L2.call_abs (OpSLR.opl s_abs) m_abs bt_abs (v_cons (v_bty L2.call_int1 (OpSLR.opl s_int) m_int bt_int (v_cons (v_var 2) sa_nil)) sa_nil))))
    (ss_one
    (ss_ret (v_lst (v_cons (v_var 1) (v_cons se_int (v_cons se_int (v_cons (se_bin op_addV s_add se_int (se_bin op_mulV s_mul se_int (v_bltS call_lenV s_len m_len bt_len (L2.pv 1)))) (v_cons se_int sa_nil)))))))))
theorem ok__law_hand {f : Addr} {fd : FuncData} (F : L2.Fun K "_law_hand" "_law_hand" st__law_hand f fd) (hm : mg "_law_hand" = some (.ref f)) (m_abs : mg "abs" = none) (m_int : mg "int" = none) (m_len : mg "len" = none) : Good P w K mg base "_law_hand" 1 ["script"] F__law_hand := ⟨f, fd, okf__law_hand F hm m_abs m_int m_len, hm, F.kp, F.binds (ps := ["script"]) fun _ _ _ _ _ _ us hl => match us, hl with | [_], _ => rfl⟩
abbrev st__law_draw : Stmt := topS 34
theorem sc__law_draw : FnScope ["hand", "many", "number", "cell", "figure"] ["hand", "many"] (defScope st__law_draw) := ⟨rfl, rfl, rfl, by decide +kernel, rfl, by decide +kernel, by decide +kernel⟩
theorem okf__law_draw {f : Addr} {fd : FuncData} (F : L2.Fun K "_law_draw" "_law_draw" st__law_draw f fd) (hm : mg "_law_draw" = some (.ref f)) (m_len : mg "len" = none) (m_int : mg "int" = none) : FnOk P w K mg base (L2.CX P w) 1 f fd ["hand", "many"] (spH K 2 F__law_draw) := by
  refine ok_defH (N := ["hand", "many", "number", "cell", "figure"]) (ps := ["hand", "many"]) (d := d__law_draw) F sc__law_draw (fun cdv A outer s H E PP a hr => ?_)
  have U := u_of hr
  have nd := sc__law_draw.nd
  exact (ss_cons (ss_if (L2.PW.pt (sw_and (vt_cmp (L2.op_eqD (u64 U)) s_eq (v_ixS U (L2.pv 0) se_int) se_int) (L2.pw_and1 (vt_cmp (op_ltV (u64 U)) (s_ord fun _ _ => rfl) (v_ixS U (L2.pv 0) se_int) (v_blt call_lenV (OpSLR.opl s_len) m_len bt_len (v_cons (v_ixS U (L2.pv 0) se_int) sa_nil)))))) (ss_cons (v_set 3 nd (v_ix U (v_ixS U (L2.pv 0) se_int) (v_ixS U (L2.pv 0) se_int)))
    (ss_cons (v_setIx U (L2.pv 0) se_int (se_bin op_addV s_add (v_ixS U (L2.pv 0) se_int) se_int))
    (ss_cons (v_setIx U (L2.pv 0) se_int (se_bin L2.op_mod s_mod (v_bty L2.call_int1 (OpSLR.opl s_int) m_int bt_int (v_cons (se_bin op_addV s_add (se_bin op_addV s_add (se_bin op_mulV s_mul (v_ixS U (L2.pv 0) se_int) se_int) (v_var 3)) se_int) sa_nil)) se_int))
    (ss_one
    (ss_if (vt_cmp (op_geV (u64 U)) (s_ord fun _ _ => rfl) (v_var 3) (se_bin L2.op_pow s_pow se_int se_int)) (ss_one
    (v_setIx U (L2.pv 0) se_int (v_var 3))) ss_nil))))) ss_nil)
    (ss_cons (ss_if (vt_cmp (op_gtV (u64 U)) (s_ord fun _ _ => rfl) (v_ixS U (L2.pv 0) se_int) se_int) (ss_cons (v_set 4 nd (se_bin L2.op_mod s_mod (v_bty L2.call_int1 (OpSLR.opl s_int) m_int bt_int (v_cons (v_ixS U (L2.pv 0) se_int) sa_nil)) (v_var 1)))
    (ss_cons (v_setIx U (L2.pv 0) se_int (se_bin L2.op_fdiv s_div (v_ixS U (L2.pv 0) se_int) (v_var 1)))
    (ss_one
    (ss_retF (v_var 4))))) ss_nil)
    (ss_cons (v_setIx U (L2.pv 0) se_int (se_bin op_addV s_add (v_ixS U (L2.pv 0) se_int) se_int))
    (ss_cons (v_set 2 nd (se_bin L2.op_mod s_mod (v_bty L2.call_int1 (OpSLR.opl s_int) m_int bt_int (v_cons (se_bin op_mulV s_mul (v_bty L2.call_int1 (OpSLR.opl s_int) m_int bt_int (v_cons (se_bin op_addV s_add (v_ixS U (L2.pv 0) se_int) (se_bin op_mulV s_mul se_int (v_ixS U (L2.pv 0) se_int))) sa_nil)) se_int) sa_nil)) se_int))
    (ss_cons (v_set 2 nd (se_bin L2.op_mod s_mod (v_bty L2.call_int1 (OpSLR.opl s_int) m_int bt_int (v_cons (se_bin op_mulV s_mul (v_var 2) (se_bin op_addV s_add (se_bin L2.op_fdiv s_div (v_var 2) se_int) se_int)) sa_nil)) se_int))
    (ss_cons (v_set 2 nd (se_bin L2.op_mod s_mod (v_bty L2.call_int1 (OpSLR.opl s_int) m_int bt_int (v_cons (se_bin op_mulV s_mul (v_var 2) (se_bin op_addV s_add (se_bin L2.op_fdiv s_div (v_var 2) se_int) se_int)) sa_nil)) se_int))
    (ss_one
    (ss_retF (se_bin L2.op_mod s_mod (v_bty L2.call_int1 (OpSLR.opl s_int) m_int bt_int (v_cons (se_bin L2.op_fdiv s_div (v_var 2) se_int) sa_nil)) (v_var 1))))))))))
theorem ok__law_draw {f : Addr} {fd : FuncData} (F : L2.Fun K "_law_draw" "_law_draw" st__law_draw f fd) (hm : mg "_law_draw" = some (.ref f)) (m_len : mg "len" = none) (m_int : mg "int" = none) : GoodH P w K mg base "_law_draw" 1 ["hand", "many"] F__law_draw := ⟨f, fd, okf__law_draw F hm m_len m_int, hm, F.kp, F.binds (ps := ["hand", "many"]) fun _ _ _ _ _ _ us hl => match us, hl with | [_, _], _ => rfl⟩
abbrev st__law_some : Stmt := topS 35
theorem sc__law_some : FnScope ["hand", "things"] ["hand", "things"] (defScope st__law_some) := ⟨rfl, rfl, rfl, by decide +kernel, rfl, by decide +kernel, by decide +kernel⟩
theorem okf__law_some {f : Addr} {fd : FuncData} (F : L2.Fun K "_law_some" "_law_some" st__law_some f fd) (hm : mg "_law_some" = some (.ref f)) (g__law_draw : GoodH P w K mg base "_law_draw" 1 ["hand", "many"] F__law_draw) (m_len : mg "len" = none) : FnOk P w K mg base (L2.CX P w) 2 f fd ["hand", "things"] (spH K 2 F__law_some) := by
  refine ok_defH (N := ["hand", "things"]) (ps := ["hand", "things"]) (d := d__law_some) F sc__law_some (fun cdv A outer s H E PP a hr => ?_)
  have U := u_of hr
  have nd := sc__law_some.nd
  exact (ss_one
    (ss_retF (v_ixS U (L2.pv 1) (v_callH g__law_draw hr pass_top (L2.pv 0) (v_cons (v_bltS call_lenV s_len m_len bt_len (L2.pv 1)) sa_nil)))))
theorem ok__law_some {f : Addr} {fd : FuncData} (F : L2.Fun K "_law_some" "_law_some" st__law_some f fd) (hm : mg "_law_some" = some (.ref f)) (g__law_draw : GoodH P w K mg base "_law_draw" 1 ["hand", "many"] F__law_draw) (m_len : mg "len" = none) : GoodH P w K mg base "_law_some" 2 ["hand", "things"] F__law_some := ⟨f, fd, okf__law_some F hm g__law_draw m_len, hm, F.kp, F.binds (ps := ["hand", "things"]) fun _ _ _ _ _ _ us hl => match us, hl with | [_, _], _ => rfl⟩
abbrev st__law_hide : Stmt := topS 36
theorem sc__law_hide : FnScope ["hand", "most", "rows", "row", "high", "wide", "share", "column"] ["hand", "most"] (defScope st__law_hide) := ⟨rfl, rfl, rfl, by decide +kernel, rfl, by decide +kernel, by decide +kernel⟩
theorem okf__law_hide {f : Addr} {fd : FuncData} (F : L2.Fun K "_law_hide" "_law_hide" st__law_hide f fd) (hm : mg "_law_hide" = some (.ref f)) (g__law_draw : GoodH P w K mg base "_law_draw" 1 ["hand", "many"] F__law_draw) (g__law_some : GoodH P w K mg base "_law_some" 2 ["hand", "things"] F__law_some) (m_range : mg "range" = none) : FnOk P w K mg base (L2.CX P w) 3 f fd ["hand", "most"] (spH K 2 F__law_hide) := by
  refine ok_defH (N := ["hand", "most", "rows", "row", "high", "wide", "share", "column"]) (ps := ["hand", "most"]) (d := d__law_hide) F sc__law_hide (fun cdv A outer s H E PP a hr => ?_)
  have U := u_of hr
  have nd := sc__law_hide.nd
  exact (ss_cons (v_parT (js := [4, 5, 6]) (so_cons (se_bin op_addV s_add se_int (v_callH g__law_draw hr pass_top (L2.pv 0) (v_cons (v_var 1) sa_nil))) (so_all fun PP => (so_cons (se_bin op_addV s_add se_int (v_callH g__law_draw hr pass_top (L2.pv 0) (v_cons (v_var 1) sa_nil))) (so_all fun PP => (so_cons (v_callH g__law_some hr pass_top (L2.pv 0) (v_cons (v_lst (v_cons se_int (v_cons se_int (v_cons se_int sa_nil)))) sa_nil)) (so_all fun PP => so_nil)))))) (gn_cons (gn_cons (gn_cons gn_nil nd) nd) nd))
    (ss_cons (v_set 2 nd (v_tup sa_nil))
    (ss_cons (v_for own_top (v_rng1 m_range (v_cons (v_var 4) sa_nil)) (g_nm 3 nd) (ss_one
    (v_set 2 nd (se_bin op_addV s_add (v_var 2) (v_tup (v_cons (v_join se_str (v_lc [("column", 7)] nd (v_rng1 m_range (v_cons (v_var 5) sa_nil)) (fun s H C cl fp PP => (g_nm 7 nd)) (fun s H C cl fp PP => (se_if (vt_cmp (L2.op_eqD (u64 U)) s_eq (v_callH g__law_draw hr passL (L2.pv 0) (v_cons (v_var 6) sa_nil)) se_int) se_str se_str)))) sa_nil))))))
    (ss_one
    (ss_retF (v_var 2))))))
theorem ok__law_hide {f : Addr} {fd : FuncData} (F : L2.Fun K "_law_hide" "_law_hide" st__law_hide f fd) (hm : mg "_law_hide" = some (.ref f)) (g__law_draw : GoodH P w K mg base "_law_draw" 1 ["hand", "many"] F__law_draw) (g__law_some : GoodH P w K mg base "_law_some" 2 ["hand", "things"] F__law_some) (m_range : mg "range" = none) : GoodH P w K mg base "_law_hide" 3 ["hand", "most"] F__law_hide := ⟨f, fd, okf__law_hide F hm g__law_draw g__law_some m_range, hm, F.kp, F.binds (ps := ["hand", "most"]) fun _ _ _ _ _ _ us hl => match us, hl with | [_, _], _ => rfl⟩
abbrev st__law_cells : Stmt := topS 37
theorem sc__law_cells : FnScope ["hide", "found", "row", "text", "column", "sign"] ["hide"] (defScope st__law_cells) := ⟨rfl, rfl, rfl, by decide +kernel, rfl, by decide +kernel, by decide +kernel⟩
theorem okf__law_cells {f : Addr} {fd : FuncData} (F : L2.Fun K "_law_cells" "_law_cells" st__law_cells f fd) (hm : mg "_law_cells" = some (.ref f)) (m_enumerate : mg "enumerate" = none) : FnOk P w K mg base (L2.CX P w) 1 f fd ["hide"] (spP K mg 1 F__law_cells) := by
  refine ok_def (N := ["hide", "found", "row", "text", "column", "sign"]) (ps := ["hide"]) (d := d__law_cells) F sc__law_cells (fun cdv A outer s H E PP hr => ?_)
  have U := u_of hr
  have nd := sc__law_cells.nd
  exact (ss_cons (v_set 1 nd (v_lst sa_nil))
    (ss_cons (v_for own_top (v_enum m_enumerate (v_cons (v_var 0) sa_nil)) (g_tup (g_cons (g_nm 2 nd) (g_cons (g_nm 3 nd) sgs_nil))) (ss_one
    (v_set 1 nd (se_bin op_addV s_add (v_var 1) (v_lcIf [("column", 4), ("sign", 5)] nd (v_enum m_enumerate (v_cons (v_var 3) sa_nil)) (fun s H C cl fp PP => (g_tup (g_cons (g_nm 4 nd) (g_cons (g_nm 5 nd) sgs_nil)))) (fun s H C cl fp PP => (vt_cmp (L2.op_eqD (u64 U)) s_eq (v_var 5) se_str)) (fun s H C cl fp PP => (v_tup (v_cons (v_var 2) (v_cons (v_var 4) sa_nil)))))))))
    (ss_one
    (ss_ret (v_var 1)))))
theorem ok__law_cells {f : Addr} {fd : FuncData} (F : L2.Fun K "_law_cells" "_law_cells" st__law_cells f fd) (hm : mg "_law_cells" = some (.ref f)) (m_enumerate : mg "enumerate" = none) : Good P w K mg base "_law_cells" 1 ["hide"] F__law_cells := ⟨f, fd, okf__law_cells F hm m_enumerate, hm, F.kp, F.binds (ps := ["hide"]) fun _ _ _ _ _ _ us hl => match us, hl with | [_], _ => rfl⟩
abbrev st__law_covered : Stmt := topS 38
theorem sc__law_covered : FnScope ["cut", "size", "found", "down", "row", "column", "is_turned", "high", "wide", "across"] ["cut", "size"] (defScope st__law_covered) := ⟨rfl, rfl, rfl, by decide +kernel, rfl, by decide +kernel, by decide +kernel⟩
theorem okf__law_covered {f : Addr} {fd : FuncData} (F : L2.Fun K "_law_covered" "_law_covered" st__law_covered f fd) (hm : mg "_law_covered" = some (.ref f)) (m_range : mg "range" = none) : FnOk P w K mg base (L2.CX P w) 1 f fd ["cut", "size"] (spP K mg 2 F__law_covered) := by
  refine ok_def (N := ["cut", "size", "found", "down", "row", "column", "is_turned", "high", "wide", "across"]) (ps := ["cut", "size"]) (d := d__law_covered) F sc__law_covered (fun cdv A outer s H E PP hr => ?_)
  have U := u_of hr
  have nd := sc__law_covered.nd
  exact (ss_cons (v_asg (v_var 0) (g_tup (g_cons (g_nm 4 nd) (g_cons (g_nm 5 nd) (g_cons (g_nm 6 nd) sgs_nil)))))
    (ss_cons (v_asg (se_if (vt_trueS (L2.pv 6)) (v_rev (v_var 1)) (v_var 1)) (g_tup (g_cons (g_nm 7 nd) (g_cons (g_nm 8 nd) sgs_nil))))
    (ss_cons (v_set 2 nd (v_lst sa_nil))
    (ss_cons (v_for own_top (v_rng1 m_range (v_cons (v_var 7) sa_nil)) (g_nm 3 nd) (ss_one
    (v_set 2 nd (se_bin op_addV s_add (v_var 2) (v_lc [("across", 9)] nd (v_rng1 m_range (v_cons (v_var 8) sa_nil)) (fun s H C cl fp PP => (g_nm 9 nd)) (fun s H C cl fp PP => (v_tup (v_cons (se_bin op_addV s_add (v_var 4) (v_var 3)) (v_cons (se_bin op_addV s_add (v_var 5) (v_var 9)) sa_nil)))))))))
    (ss_one
    (ss_ret (v_var 2)))))))
theorem ok__law_covered {f : Addr} {fd : FuncData} (F : L2.Fun K "_law_covered" "_law_covered" st__law_covered f fd) (hm : mg "_law_covered" = some (.ref f)) (m_range : mg "range" = none) : Good P w K mg base "_law_covered" 1 ["cut", "size"] F__law_covered := ⟨f, fd, okf__law_covered F hm m_range, hm, F.kp, F.binds (ps := ["cut", "size"]) fun _ _ _ _ _ _ us hl => match us, hl with | [_, _], _ => rfl⟩
abbrev st__law_places : Stmt := topS 39
theorem sc__law_places : FnScope ["hide", "size", "good", "found", "row", "column", "is_turned", "cut", "cell"] ["hide", "size"] (defScope st__law_places) := ⟨rfl, rfl, rfl, by decide +kernel, rfl, by decide +kernel, by decide +kernel⟩
theorem okf__law_places {f : Addr} {fd : FuncData} (F : L2.Fun K "_law_places" "_law_places" st__law_places f fd) (hm : mg "_law_places" = some (.ref f)) (g__law_cells : Good P w K mg base "_law_cells" 1 ["hide"] F__law_cells) (g__law_covered : Good P w K mg base "_law_covered" 1 ["cut", "size"] F__law_covered) (m_all : mg "all" = none) : FnOk P w K mg base (L2.CX P w) 2 f fd ["hide", "size"] (spP K mg 2 F__law_places) := by
  refine ok_def (N := ["hide", "size", "good", "found", "row", "column", "is_turned", "cut", "cell"]) (ps := ["hide", "size"]) (d := d__law_places) F sc__law_places (fun cdv A outer s H E PP hr => ?_)
  have U := u_of hr
  have nd := sc__law_places.nd
  exact (ss_cons (v_parT (js := [2, 3]) (so_cons (v_call g__law_cells hr pass_top (v_cons (v_var 0) sa_nil)) (so_all fun PP => (so_cons (v_lst sa_nil) (so_all fun PP => so_nil)))) (gn_cons (gn_cons gn_nil nd) nd))
    (ss_cons (v_for own_top (v_ival (v_var 2)) (g_tup (g_cons (g_nm 4 nd) (g_cons (g_nm 5 nd) sgs_nil))) (ss_one
    (v_for own_top (v_ival (v_tup (v_cons se_bl (v_cons se_bl sa_nil)))) (g_nm 6 nd) (ss_one
    (ss_if (L2.PW.pt (sw_or (st_not (vt_trueS (L2.pv 6))) (L2.pw_or1 (vt_cmp (L2.op_neD (u64 U)) s_ne (v_ixS U (L2.pv 1) se_int) (v_ixS U (L2.pv 1) se_int))))) (ss_cons (v_set 7 nd (v_tup (v_cons (v_var 4) (v_cons (v_var 5) (v_cons (v_var 6) sa_nil)))))
    (ss_one
    (v_set 3 nd (se_bin op_addV s_add (v_var 3) (se_if (vt_true (v_blt (L2.cr_all rfl) (OpSLR.opl s_all) m_all bt_all (v_cons (v_lc [("cell", 8)] nd (v_ival (v_call g__law_covered hr pass_top (v_cons (v_var 7) (v_cons (v_var 1) sa_nil)))) (fun s H C cl fp PP => (g_nm 8 nd)) (fun s H C cl fp PP => (v_cmpS (op_inV (u65 U)) s_in (v_var 8) (L2.pv 2)))) sa_nil))) (v_lst (v_cons (v_var 7) sa_nil)) (v_lst sa_nil)))))) ss_nil)))))
    (ss_one
    (ss_ret (v_var 3)))))
theorem ok__law_places {f : Addr} {fd : FuncData} (F : L2.Fun K "_law_places" "_law_places" st__law_places f fd) (hm : mg "_law_places" = some (.ref f)) (g__law_cells : Good P w K mg base "_law_cells" 1 ["hide"] F__law_cells) (g__law_covered : Good P w K mg base "_law_covered" 1 ["cut", "size"] F__law_covered) (m_all : mg "all" = none) : Good P w K mg base "_law_places" 2 ["hide", "size"] F__law_places := ⟨f, fd, okf__law_places F hm g__law_cells g__law_covered m_all, hm, F.kp, F.binds (ps := ["hide", "size"]) fun _ _ _ _ _ _ us hl => match us, hl with | [_, _], _ => rfl⟩
abbrev st__law_cuts : Stmt := topS 40
theorem sc__law_cuts : FnScope ["hide", "sizes", "found", "size", "longer", "places", "row", "used", "cut", "cells", "cell"] ["hide", "sizes"] (defScope st__law_cuts) := ⟨rfl, rfl, rfl, by decide +kernel, rfl, by decide +kernel, by decide +kernel⟩
theorem okf__law_cuts {f : Addr} {fd : FuncData} (F : L2.Fun K "_law_cuts" "_law_cuts" st__law_cuts f fd) (hm : mg "_law_cuts" = some (.ref f)) (g__law_places : Good P w K mg base "_law_places" 2 ["hide", "size"] F__law_places) (g__law_covered : Good P w K mg base "_law_covered" 1 ["cut", "size"] F__law_covered) (m_any : mg "any" = none) (m_tuple : mg "tuple" = none) : FnOk P w K mg base (L2.CX P w) 3 f fd ["hide", "sizes"] (spP K mg 2 F__law_cuts) := by
  refine ok_def (N := ["hide", "sizes", "found", "size", "longer", "places", "row", "used", "cut", "cells", "cell"]) (ps := ["hide", "sizes"]) (d := d__law_cuts) F sc__law_cuts (fun cdv A outer s H E PP hr => ?_)
  have U := u_of hr
  have nd := sc__law_cuts.nd
  exact (ss_cons (v_set 2 nd (v_lst (v_cons (v_tup (v_cons (v_tup sa_nil) (v_cons (v_tup sa_nil) sa_nil))) sa_nil)))
    (ss_cons (v_for own_top (v_ival (v_var 1)) (g_nm 3 nd) (ss_cons (v_parO nd (so_cons (v_lst sa_nil) (so_all fun PP => (so_cons (v_lc [("cut", 8)] nd (v_ival (v_call g__law_places hr pass_top (v_cons (v_var 0) (v_cons (v_var 3) sa_nil)))) (fun s H C cl fp PP => (g_nm 8 nd)) (fun s H C cl fp PP => (v_tup (v_cons (v_var 8) (v_cons (v_call g__law_covered hr passL (v_cons (v_var 8) (v_cons (v_var 3) sa_nil))) sa_nil))))) (so_all fun PP => so_nil)))))
    (ss_cons (v_for own_top (v_ival (v_var 2)) (g_tup (g_cons (g_nm 6 nd) (g_cons (g_nm 7 nd) sgs_nil))) (ss_one
    (v_for own_top (v_ival (v_var 5)) (g_tup (g_cons (g_nm 8 nd) (g_cons (g_nm 9 nd) sgs_nil))) (ss_one
    (ss_if (st_not (vt_true (v_blt (L2.cr_any rfl) (OpSLR.opl s_any) m_any bt_any (v_cons (v_lc [("cell", 10)] nd (v_ival (v_var 9)) (fun s H C cl fp PP => (g_nm 10 nd)) (fun s H C cl fp PP => (v_cmpS (op_inV (u65 U)) s_in (v_var 10) (L2.pv 7)))) sa_nil)))) (ss_one
    (v_expr (v_app (L2.pv 4) (v_tup (v_cons (se_bin op_addV s_add (v_var 6) (v_tup (v_cons (v_var 8) sa_nil))) (v_cons (se_bin op_addV s_add (v_var 7) (v_btyS L2.call_tuple_of s_tuple m_tuple bt_tuple (L2.pv 9))) sa_nil)))))) ss_nil)))))
    (ss_one
    (v_set 2 nd (v_var 4))))))
    (ss_one
    (ss_ret (v_var 2)))))
theorem ok__law_cuts {f : Addr} {fd : FuncData} (F : L2.Fun K "_law_cuts" "_law_cuts" st__law_cuts f fd) (hm : mg "_law_cuts" = some (.ref f)) (g__law_places : Good P w K mg base "_law_places" 2 ["hide", "size"] F__law_places) (g__law_covered : Good P w K mg base "_law_covered" 1 ["cut", "size"] F__law_covered) (m_any : mg "any" = none) (m_tuple : mg "tuple" = none) : Good P w K mg base "_law_cuts" 3 ["hide", "sizes"] F__law_cuts := ⟨f, fd, okf__law_cuts F hm g__law_places g__law_covered m_any m_tuple, hm, F.kp, F.binds (ps := ["hide", "sizes"]) fun _ _ _ _ _ _ us hl => match us, hl with | [_, _], _ => rfl⟩
abbrev st__law_sizes : Stmt := topS 41
theorem sc__law_sizes : FnScope ["hand", "sizes", "leaf"] ["hand"] (defScope st__law_sizes) := ⟨rfl, rfl, rfl, by decide +kernel, rfl, by decide +kernel, by decide +kernel⟩
theorem okf__law_sizes {f : Addr} {fd : FuncData} (F : L2.Fun K "_law_sizes" "_law_sizes" st__law_sizes f fd) (hm : mg "_law_sizes" = some (.ref f)) (g__law_draw : GoodH P w K mg base "_law_draw" 1 ["hand", "many"] F__law_draw) (m_range : mg "range" = none) : FnOk P w K mg base (L2.CX P w) 2 f fd ["hand"] (spH K 1 F__law_sizes) := by
  refine ok_defH (N := ["hand", "sizes", "leaf"]) (ps := ["hand"]) (d := d__law_sizes) F sc__law_sizes (fun cdv A outer s H E PP a hr => ?_)
  have U := u_of hr
  have nd := sc__law_sizes.nd
  exact (ss_cons (v_set 1 nd (v_tup sa_nil))
    (ss_cons (v_for own_top (v_rng1 m_range (v_cons (se_bin op_addV s_add se_int (v_callH g__law_draw hr pass_top (L2.pv 0) (v_cons se_int sa_nil))) sa_nil)) (g_nm 2 nd) (ss_one
    (v_set 1 nd (se_bin op_addV s_add (v_var 1) (v_tup (v_cons (v_tup (v_cons (se_bin op_addV s_add se_int (v_callH g__law_draw hr pass_top (L2.pv 0) (v_cons se_int sa_nil))) (v_cons (se_bin op_addV s_add se_int (v_callH g__law_draw hr pass_top (L2.pv 0) (v_cons se_int sa_nil))) sa_nil))) sa_nil))))))
    (ss_one
    (ss_retF (v_var 1)))))
theorem ok__law_sizes {f : Addr} {fd : FuncData} (F : L2.Fun K "_law_sizes" "_law_sizes" st__law_sizes f fd) (hm : mg "_law_sizes" = some (.ref f)) (g__law_draw : GoodH P w K mg base "_law_draw" 1 ["hand", "many"] F__law_draw) (m_range : mg "range" = none) : GoodH P w K mg base "_law_sizes" 2 ["hand"] F__law_sizes := ⟨f, fd, okf__law_sizes F hm g__law_draw m_range, hm, F.kp, F.binds (ps := ["hand"]) fun _ _ _ _ _ _ us hl => match us, hl with | [_], _ => rfl⟩
abbrev st__law_holed : Stmt := topS 42
theorem sc__law_holed : FnScope ["hide", "cell", "r", "c"] ["hide", "cell"] (defScope st__law_holed) := ⟨rfl, rfl, rfl, by decide +kernel, rfl, by decide +kernel, by decide +kernel⟩
theorem okf__law_holed {f : Addr} {fd : FuncData} (F : L2.Fun K "_law_holed" "_law_holed" st__law_holed f fd) (hm : mg "_law_holed" = some (.ref f)) : FnOk P w K mg base (L2.CX P w) 1 f fd ["hide", "cell"] (spP K mg 2 F__law_holed) := by
  refine ok_def (N := ["hide", "cell", "r", "c"]) (ps := ["hide", "cell"]) (d := d__law_holed) F sc__law_holed (fun cdv A outer s H E PP hr => ?_)
  have U := u_of hr
  have nd := sc__law_holed.nd
  exact (ss_cons (v_asg (v_var 1) (g_tup (g_cons (g_nm 2 nd) (g_cons (g_nm 3 nd) sgs_nil))))
    (ss_one
    (ss_ret (se_bin op_addV s_add (se_bin op_addV s_add (v_sl (v_var 0) so_none (so_some (v_var 2))) (v_tup (v_cons (se_bin op_addV s_add (se_bin op_addV s_add (v_sl (v_ixS U (L2.pv 0) (v_var 2)) so_none (so_some (v_var 3))) se_str) (v_sl (v_ixS U (L2.pv 0) (v_var 2)) (so_some (se_bin op_addV s_add (v_var 3) se_int)) so_none)) sa_nil))) (v_sl (v_var 0) (so_some (se_bin op_addV s_add (v_var 2) se_int)) so_none)))))
theorem ok__law_holed {f : Addr} {fd : FuncData} (F : L2.Fun K "_law_holed" "_law_holed" st__law_holed f fd) (hm : mg "_law_holed" = some (.ref f)) : Good P w K mg base "_law_holed" 1 ["hide", "cell"] F__law_holed := ⟨f, fd, okf__law_holed F hm, hm, F.kp, F.binds (ps := ["hide", "cell"]) fun _ _ _ _ _ _ us hl => match us, hl with | [_, _], _ => rfl⟩
abbrev st__law_is : Stmt := topS 43
theorem sc__law_is : FnScope ["told", "due", "key", "one", "two"] ["told", "due"] (defScope st__law_is) := ⟨rfl, rfl, rfl, by decide +kernel, rfl, by decide +kernel, by decide +kernel⟩
theorem okf__law_is {f : Addr} {fd : FuncData} (F : L2.Fun K "_law_is" "_law_is" st__law_is f fd) (hm : mg "_law_is" = some (.ref f)) (m_isinstance : mg "isinstance" = none) (m_tuple : mg "tuple" = none) (m_list : mg "list" = none) (m_len : mg "len" = none) (m_all : mg "all" = none) (m_zip : mg "zip" = none) (m_dict : mg "dict" = none) (m_str : mg "str" = none) (m_int : mg "int" = none) (m_bool : mg "bool" = none) {R : Fn} {n : Nat} (g_rec : Good P w K mg base "_law_is" (1 + n) ["told", "due"] R) : FnOk P w K mg base (L2.CX P w) (1 + n + 1) f fd ["told", "due"] (spP K mg 2 (runF 5 2 (d__law_is R))) := by
  refine ok_def (N := ["told", "due", "key", "one", "two"]) (ps := ["told", "due"]) (d := d__law_is R) F sc__law_is (fun cdv A outer s H E PP hr => ?_)
  have U := u_of hr
  have nd := sc__law_is.nd
  exact (ss_cons (ss_if (vt_true (v_blt call_isiV s_isi m_isinstance bt_isinstance (v_cons (v_var 1) (v_cons (v_tup (v_cons (v_ty m_tuple bt_tuple) (v_cons (v_ty m_list bt_list) sa_nil))) sa_nil)))) (ss_cons (ss_if (L2.PW.pt (sw_or (vt_cmp (L2.op_neD (u64 U)) s_ne (v_blt call_isiV s_isi m_isinstance bt_isinstance (v_cons (v_var 0) (v_cons (v_ty m_tuple bt_tuple) sa_nil))) (v_blt call_isiV s_isi m_isinstance bt_isinstance (v_cons (v_var 1) (v_cons (v_ty m_tuple bt_tuple) sa_nil)))) (L2.pw_or1 (st_not (vt_true (v_blt call_isiV s_isi m_isinstance bt_isinstance (v_cons (v_var 0) (v_cons (v_tup (v_cons (v_ty m_tuple bt_tuple) (v_cons (v_ty m_list bt_list) sa_nil))) sa_nil)))))))) (ss_one
    (ss_ret se_bl)) ss_nil)
    (ss_one
    (ss_ret (se_and (v_cmp (L2.op_eqD (u64 U)) s_eq (v_bltS call_lenV s_len m_len bt_len (L2.pv 0)) (v_bltS call_lenV s_len m_len bt_len (L2.pv 1))) (pe_one (v_blt (L2.cr_all rfl) (OpSLR.opl s_all) m_all bt_all (v_cons (v_lc [("one", 3), ("two", 4)] nd (v_zip m_zip (v_cons (v_var 0) (v_cons (v_var 1) sa_nil))) (fun s H C cl fp PP => (g_tup (g_cons (g_nm 3 nd) (g_cons (g_nm 4 nd) sgs_nil)))) (fun s H C cl fp PP => (v_call g_rec hr passL (v_cons (v_var 3) (v_cons (v_var 4) sa_nil)) (le := by omega)))) sa_nil))))))) ss_nil)
    (ss_cons (ss_if (vt_true (v_blt call_isiV s_isi m_isinstance bt_isinstance (v_cons (v_var 1) (v_cons (v_ty m_dict bt_dict) sa_nil)))) (ss_cons (ss_if (L2.PW.pt (sw_or (st_not (vt_true (v_blt call_isiV s_isi m_isinstance bt_isinstance (v_cons (v_var 0) (v_cons (v_ty m_dict bt_dict) sa_nil))))) (L2.pw_or1 (vt_cmp (L2.op_neD (u64 U)) s_ne (v_bltS call_lenV s_len m_len bt_len (L2.pv 0)) (v_bltS call_lenV s_len m_len bt_len (L2.pv 1)))))) (ss_one
    (ss_ret se_bl)) ss_nil)
    (ss_one
    (ss_ret (v_blt (L2.cr_all rfl) (OpSLR.opl s_all) m_all bt_all (v_cons (v_lc [("key", 2)] nd (v_ival (v_var 1)) (fun s H C cl fp PP => (g_nm 2 nd)) (fun s H C cl fp PP => (se_and (v_cmpS (op_inV (u65 U)) s_in (v_var 2) (L2.pv 0)) (pe_one (v_call g_rec hr passL (v_cons (v_ixS U (L2.pv 0) (v_var 2)) (v_cons (v_ixS U (L2.pv 1) (v_var 2)) sa_nil)) (le := by omega)))))) sa_nil))))) ss_nil)
    (ss_cons (ss_if (L2.PW.pt (sw_or (vt_true (v_blt call_isiV s_isi m_isinstance bt_isinstance (v_cons (v_var 1) (v_cons (v_ty m_str bt_str) sa_nil)))) (L2.pw_or1 (vt_cmp op_isV s_is (v_var 1) se_non)))) (ss_one
    (ss_ret (se_and (v_cmp (L2.op_eqD (u64 U)) s_eq (v_blt call_isiV s_isi m_isinstance bt_isinstance (v_cons (v_var 0) (v_cons (v_ty m_str bt_str) sa_nil))) (v_blt call_isiV s_isi m_isinstance bt_isinstance (v_cons (v_var 1) (v_cons (v_ty m_str bt_str) sa_nil)))) (pe_one (v_cmp (L2.op_eqD (u64 U)) s_eq (v_var 0) (v_var 1)))))) ss_nil)
    (ss_one
    (ss_ret (se_and (v_blt call_isiV s_isi m_isinstance bt_isinstance (v_cons (v_var 0) (v_cons (v_ty m_int bt_int) sa_nil))) (se_and (v_cmp (L2.op_eqD (u64 U)) s_eq (v_blt call_isiV s_isi m_isinstance bt_isinstance (v_cons (v_var 0) (v_cons (v_ty m_bool bt_bool) sa_nil))) (v_blt call_isiV s_isi m_isinstance bt_isinstance (v_cons (v_var 1) (v_cons (v_ty m_bool bt_bool) sa_nil)))) (pe_one (v_cmp (L2.op_eqD (u64 U)) s_eq (v_var 0) (v_var 1))))))))))
theorem okn__law_is {f : Addr} {fd : FuncData} (F : L2.Fun K "_law_is" "_law_is" st__law_is f fd) (hm : mg "_law_is" = some (.ref f)) (m_isinstance : mg "isinstance" = none) (m_tuple : mg "tuple" = none) (m_list : mg "list" = none) (m_len : mg "len" = none) (m_all : mg "all" = none) (m_zip : mg "zip" = none) (m_dict : mg "dict" = none) (m_str : mg "str" = none) (m_int : mg "int" = none) (m_bool : mg "bool" = none) (n : Nat) : Good P w K mg base "_law_is" (1 + n) ["told", "due"] (F__law_is n) := by
  induction n with
  | zero => exact ⟨f, fd, ok_def (k := 0) (N := ["told", "due", "key", "one", "two"]) (ps := ["told", "due"]) (d := sNo) F sc__law_is (fun cdv A outer s H E PP hr => ss_noS), hm, F.kp, F.binds (ps := ["told", "due"]) fun _ _ _ _ _ _ us hl => match us, hl with | [_, _], _ => rfl⟩
  | succ n ih => exact ⟨f, fd, okf__law_is F hm m_isinstance m_tuple m_list m_len m_all m_zip m_dict m_str m_int m_bool ih, hm, F.kp, F.binds (ps := ["told", "due"]) fun _ _ _ _ _ _ us hl => match us, hl with | [_, _], _ => rfl⟩
theorem ok__law_is {f : Addr} {fd : FuncData} (F : L2.Fun K "_law_is" "_law_is" st__law_is f fd) (hm : mg "_law_is" = some (.ref f)) (m_isinstance : mg "isinstance" = none) (m_tuple : mg "tuple" = none) (m_list : mg "list" = none) (m_len : mg "len" = none) (m_all : mg "all" = none) (m_zip : mg "zip" = none) (m_dict : mg "dict" = none) (m_str : mg "str" = none) (m_int : mg "int" = none) (m_bool : mg "bool" = none) : Good P w K mg base "_law_is" 9 ["told", "due"] (F__law_is 8) := okn__law_is F hm m_isinstance m_tuple m_list m_len m_all m_zip m_dict m_str m_int m_bool 8
abbrev st__law_lots : Stmt := topS 44
theorem sc__law_lots : FnScope ["n", "found", "one", "size", "lot"] ["n"] (defScope st__law_lots) := ⟨rfl, rfl, rfl, by decide +kernel, rfl, by decide +kernel, by decide +kernel⟩
theorem okf__law_lots {f : Addr} {fd : FuncData} (F : L2.Fun K "_law_lots" "_law_lots" st__law_lots f fd) (hm : mg "_law_lots" = some (.ref f)) (m_range : mg "range" = none) (m_sorted : mg "sorted" = none) (m_len : mg "len" = none) : FnOk P w K mg base (L2.CX P w) 1 f fd ["n"] (spP K mg 1 F__law_lots) := by
  refine ok_def (N := ["n", "found", "one", "size", "lot"]) (ps := ["n"]) (d := d__law_lots) F sc__law_lots (fun cdv A outer s H E PP hr => ?_)
  have U := u_of hr
  have nd := sc__law_lots.nd
  exact (ss_cons (v_set 1 nd (v_lst (v_cons (v_tup sa_nil) sa_nil)))
    (ss_cons (v_for own_top (v_rng1 m_range (v_cons (v_var 0) sa_nil)) (g_nm 2 nd) (ss_one
    (v_set 1 nd (se_bin op_addV s_add (v_var 1) (v_lc [("lot", 4)] nd (v_ival (v_var 1)) (fun s H C cl fp PP => (g_nm 4 nd)) (fun s H C cl fp PP => (se_bin op_addV s_add (v_var 4) (v_tup (v_cons (v_var 2) sa_nil)))))))))
    (ss_one
    (ss_ret (v_lc [("size", 3), ("lot", 4)] nd (v_ival (v_blt (call_sortV (u64 U)) (OpSLR.opl s_sorted) m_sorted bt_sorted (v_cons (v_lc [("lot", 4)] nd (v_ival (v_var 1)) (fun s H C cl fp PP => (g_nm 4 nd)) (fun s H C cl fp PP => (v_tup (v_cons (v_bltS call_lenV s_len m_len bt_len (L2.pv 4)) (v_cons (v_var 4) sa_nil))))) sa_nil))) (fun s H C cl fp PP => (g_tup (g_cons (g_nm 3 nd) (g_cons (g_nm 4 nd) sgs_nil)))) (fun s H C cl fp PP => (v_var 4)))))))
theorem ok__law_lots {f : Addr} {fd : FuncData} (F : L2.Fun K "_law_lots" "_law_lots" st__law_lots f fd) (hm : mg "_law_lots" = some (.ref f)) (m_range : mg "range" = none) (m_sorted : mg "sorted" = none) (m_len : mg "len" = none) : Good P w K mg base "_law_lots" 1 ["n"] F__law_lots := ⟨f, fd, okf__law_lots F hm m_range m_sorted m_len, hm, F.kp, F.binds (ps := ["n"]) fun _ _ _ _ _ _ us hl => match us, hl with | [_], _ => rfl⟩
abbrev st__law_largest : Stmt := topS 45
theorem sc__law_largest : FnScope ["hide", "high", "good", "best", "wide", "fits", "r", "c", "cell"] ["hide"] (defScope st__law_largest) := ⟨rfl, rfl, rfl, by decide +kernel, rfl, by decide +kernel, by decide +kernel⟩
theorem okf__law_largest {f : Addr} {fd : FuncData} (F : L2.Fun K "_law_largest" "_law_largest" st__law_largest f fd) (hm : mg "_law_largest" = some (.ref f)) (g__law_cells : Good P w K mg base "_law_cells" 1 ["hide"] F__law_cells) (g__law_covered : Good P w K mg base "_law_covered" 1 ["cut", "size"] F__law_covered) (m_range : mg "range" = none) (m_any : mg "any" = none) (m_all : mg "all" = none) : FnOk P w K mg base (L2.CX P w) 2 f fd ["hide"] (spP K mg 1 F__law_largest) := by
  refine ok_def (N := ["hide", "high", "good", "best", "wide", "fits", "r", "c", "cell"]) (ps := ["hide"]) (d := d__law_largest) F sc__law_largest (fun cdv A outer s H E PP hr => ?_)
  have U := u_of hr
  have nd := sc__law_largest.nd
  exact (ss_cons (v_parT (js := [2, 3]) (so_cons (v_call g__law_cells hr pass_top (v_cons (v_var 0) sa_nil)) (so_all fun PP => (so_cons (v_tup (v_cons se_int (v_cons se_non sa_nil))) (so_all fun PP => so_nil)))) (gn_cons (gn_cons gn_nil nd) nd))
    (ss_cons (v_for own_top (v_rng2 m_range (v_cons se_int (v_cons se_int sa_nil))) (g_nm 1 nd) (ss_one
    (v_for own_top (v_rng2 m_range (v_cons se_int (v_cons se_int sa_nil))) (g_nm 4 nd) (ss_cons (v_set 5 nd (v_blt (L2.cr_any rfl) (OpSLR.opl s_any) m_any bt_any (v_cons (v_lc [("r", 6), ("c", 7)] nd (v_ival (v_var 2)) (fun s H C cl fp PP => (g_tup (g_cons (g_nm 6 nd) (g_cons (g_nm 7 nd) sgs_nil)))) (fun s H C cl fp PP => (v_blt (L2.cr_all rfl) (OpSLR.opl s_all) m_all bt_all (v_cons (v_lc [("cell", 8)] nd (v_ival (v_call g__law_covered hr passL (v_cons (v_tup (v_cons (v_var 6) (v_cons (v_var 7) (v_cons se_bl sa_nil)))) (v_cons (v_tup (v_cons (v_var 1) (v_cons (v_var 4) sa_nil))) sa_nil)))) (fun s H C cl fp PP => (g_nm 8 nd)) (fun s H C cl fp PP => (v_cmpS (op_inV (u65 U)) s_in (v_var 8) (L2.pv 2)))) sa_nil)))) sa_nil)))
    (ss_one
    (v_set 3 nd (se_if (L2.PW.pt (sw_and (vt_trueS (L2.pv 5)) (L2.pw_and1 (vt_cmp (op_gtV (u64 U)) (s_ord fun _ _ => rfl) (se_bin op_mulV s_mul (v_var 1) (v_var 4)) (v_ixS U (L2.pv 3) se_int))))) (v_tup (v_cons (se_bin op_mulV s_mul (v_var 1) (v_var 4)) (v_cons (v_tup (v_cons (v_var 1) (v_cons (v_var 4) sa_nil))) sa_nil))) (v_var 3))))))))
    (ss_one
    (ss_ret (v_var 3)))))
theorem ok__law_largest {f : Addr} {fd : FuncData} (F : L2.Fun K "_law_largest" "_law_largest" st__law_largest f fd) (hm : mg "_law_largest" = some (.ref f)) (g__law_cells : Good P w K mg base "_law_cells" 1 ["hide"] F__law_cells) (g__law_covered : Good P w K mg base "_law_covered" 1 ["cut", "size"] F__law_covered) (m_range : mg "range" = none) (m_any : mg "any" = none) (m_all : mg "all" = none) : Good P w K mg base "_law_largest" 2 ["hide"] F__law_largest := ⟨f, fd, okf__law_largest F hm g__law_cells g__law_covered m_range m_any m_all, hm, F.kp, F.binds (ps := ["hide"]) fun _ _ _ _ _ _ us hl => match us, hl with | [_], _ => rfl⟩
abbrev st_law : Stmt := topS 46
theorem sc_law : FnScope ["script", "hand", "turn", "lots", "lot", "most", "need", "cells", "hide", "sizes", "good", "every", "cell", "high", "wide", "at", "row", "used"] ["script"] (defScope st_law) := ⟨rfl, rfl, rfl, by decide +kernel, rfl, by decide +kernel, by decide +kernel⟩
theorem okf_law {f : Addr} {fd : FuncData} (F : L2.Fun K "law" "law" st_law f fd) (hm : mg "law" = some (.ref f)) (g__law_hand : Good P w K mg base "_law_hand" 1 ["script"] F__law_hand) (g__law_hide : GoodH P w K mg base "_law_hide" 3 ["hand", "most"] F__law_hide) (g__law_sizes : GoodH P w K mg base "_law_sizes" 2 ["hand"] F__law_sizes) (g__law_cells : Good P w K mg base "_law_cells" 1 ["hide"] F__law_cells) (g__law_cuts : Good P w K mg base "_law_cuts" 3 ["hide", "sizes"] F__law_cuts) (g__law_lots : Good P w K mg base "_law_lots" 1 ["n"] F__law_lots) (g__law_is : Good P w K mg base "_law_is" 9 ["told", "due"] (F__law_is 8)) (g_most_cut : Good P w K mg base "most_cut" 6 ["hide", "sizes"] F_most_cut) (g_largest_leaf : Good P w K mg base "largest_leaf" 4 ["hide"] F_largest_leaf) (g__law_largest : Good P w K mg base "_law_largest" 2 ["hide"] F__law_largest) (g_waste_of : Good P w K mg base "waste_of" 6 ["hide", "sizes"] F_waste_of) (g_needed_hide_cells : Good P w K mg base "needed_hide_cells" 6 ["hide", "sizes"] F_needed_hide_cells) (g_harmful_holes : Good P w K mg base "harmful_holes" 6 ["hide", "sizes"] F_harmful_holes) (g__law_some : GoodH P w K mg base "_law_some" 2 ["hand", "things"] F__law_some) (g_with_hole : Good P w K mg base "with_hole" 4 ["hide", "cell"] F_with_hole) (g__law_holed : Good P w K mg base "_law_holed" 1 ["hide", "cell"] F__law_holed) (m_range : mg "range" = none) (m_len : mg "len" = none) (m_sum : mg "sum" = none) (m_tuple : mg "tuple" = none) (m_all : mg "all" = none) : FnOk P w K mg base (L2.CX P w) 10 f fd ["script"] (spP K mg 1 F_law) := by
  refine ok_def (N := ["script", "hand", "turn", "lots", "lot", "most", "need", "cells", "hide", "sizes", "good", "every", "cell", "high", "wide", "at", "row", "used"]) (ps := ["script"]) (d := d_law) F sc_law (fun cdv A outer s H E PP hr => ?_)
  have U := u_of hr
  have nd := sc_law.nd
  exact (ss_cons (v_set 1 nd (v_call g__law_hand hr pass_top (v_cons (v_var 0) sa_nil)))
    (ss_cons (v_for own_top (v_rng1 m_range (v_cons se_int sa_nil)) (g_nm 2 nd) (ss_cons (v_parT (js := [8, 9]) (so_cons (v_callH g__law_hide hr pass_top (L2.pv 1) (v_cons se_int sa_nil)) (so_all fun PP => (so_cons (v_callH g__law_sizes hr pass_top (L2.pv 1) sa_nil) (so_all fun PP => so_nil)))) (gn_cons (gn_cons gn_nil nd) nd))
    (ss_cons (v_parT (js := [10, 11]) (so_cons (v_call g__law_cells hr pass_top (v_cons (v_var 8) sa_nil)) (so_all fun PP => (so_cons (v_call g__law_cuts hr pass_top (v_cons (v_var 8) (v_cons (v_var 9) sa_nil))) (so_all fun PP => so_nil)))) (gn_cons (gn_cons gn_nil nd) nd))
    (ss_cons (v_set 3 nd (v_lst sa_nil))
    (ss_cons (v_for own_top (v_ival (v_call g__law_lots hr pass_top (v_cons (v_bltS call_lenV s_len m_len bt_len (L2.pv 9)) sa_nil))) (g_nm 4 nd) (ss_one
    (v_set 3 nd (se_bin op_addV s_add (v_var 3) (se_if (vt_cmp (op_gtV (u64 U)) (s_ord fun _ _ => rfl) (v_blt call_lenV (OpSLR.opl s_len) m_len bt_len (v_cons (v_call g__law_cuts hr pass_top (v_cons (v_var 8) (v_cons (v_lc [("at", 15)] nd (v_ival (v_var 4)) (fun s H C cl fp PP => (g_nm 15 nd)) (fun s H C cl fp PP => (v_ixS U (L2.pv 9) (v_var 15)))) sa_nil))) sa_nil)) se_int) (v_lst (v_cons (v_var 4) sa_nil)) (v_lst sa_nil))))))
    (ss_cons (v_set 5 nd (v_blt call_lenV (OpSLR.opl s_len) m_len bt_len (v_cons (v_ixS U (L2.pv 3) (se_un L2.un_neg s_neg se_int)) sa_nil)))
    (ss_cons (ss_if (st_not (vt_true (v_call g__law_is hr pass_top (v_cons (v_call g_most_cut hr pass_top (v_cons (v_var 8) (v_cons (v_var 9) sa_nil))) (v_cons (v_tup (v_cons (v_var 5) (v_cons (v_ix U (v_lcIf [("lot", 4)] nd (v_ival (v_var 3)) (fun s H C cl fp PP => (g_nm 4 nd)) (fun s H C cl fp PP => (vt_cmp (L2.op_eqD (u64 U)) s_eq (v_bltS call_lenV s_len m_len bt_len (L2.pv 4)) (v_var 5))) (fun s H C cl fp PP => (v_var 4))) se_int) sa_nil))) sa_nil))))) (ss_one
    (ss_ret se_bl)) ss_nil)
    (ss_cons (ss_if (st_not (vt_true (v_call g__law_is hr pass_top (v_cons (v_call g_largest_leaf hr pass_top (v_cons (v_var 8) sa_nil)) (v_cons (v_call g__law_largest hr pass_top (v_cons (v_var 8) sa_nil)) sa_nil))))) (ss_one
    (ss_ret se_bl)) ss_nil)
    (ss_cons (v_set 6 nd (v_blt (call_sumV rfl) (OpSLR.opl s_sum) m_sum bt_sum (v_cons (v_lc [("high", 13), ("wide", 14)] nd (v_ival (v_var 9)) (fun s H C cl fp PP => (g_tup (g_cons (g_nm 13 nd) (g_cons (g_nm 14 nd) sgs_nil)))) (fun s H C cl fp PP => (se_bin op_mulV s_mul (v_var 13) (v_var 14)))) sa_nil)))
    (ss_cons (ss_if (st_not (vt_true (v_call g__law_is hr pass_top (v_cons (v_call g_waste_of hr pass_top (v_cons (v_var 8) (v_cons (v_var 9) sa_nil))) (v_cons (se_if (vt_cmp (op_gtV (u64 U)) (s_ord fun _ _ => rfl) (v_bltS call_lenV s_len m_len bt_len (L2.pv 11)) se_int) (se_bin L2.op_sub s_sub (v_bltS call_lenV s_len m_len bt_len (L2.pv 10)) (v_var 6)) se_non) sa_nil))))) (ss_one
    (ss_ret se_bl)) ss_nil)
    (ss_cons (v_set 7 nd (v_bty L2.call_tuple_of (OpSLR.opl s_tuple) m_tuple bt_tuple (v_cons (v_lcIf [("cell", 12)] nd (v_ival (v_var 10)) (fun s H C cl fp PP => (g_nm 12 nd)) (fun s H C cl fp PP => (L2.PW.pt (sw_and (vt_cmp (op_gtV (u64 U)) (s_ord fun _ _ => rfl) (v_bltS call_lenV s_len m_len bt_len (L2.pv 11)) se_int) (L2.pw_and1 (vt_true (v_blt (L2.cr_all rfl) (OpSLR.opl s_all) m_all bt_all (v_cons (v_lc [("row", 16), ("used", 17)] nd (v_ival (v_var 11)) (fun s H C cl fp PP => (g_tup (g_cons (g_nm 16 nd) (g_cons (g_nm 17 nd) sgs_nil)))) (fun s H C cl fp PP => (v_cmpS (op_inV (u65 U)) s_in (v_var 12) (L2.pv 17)))) sa_nil))))))) (fun s H C cl fp PP => (v_var 12))) sa_nil)))
    (ss_cons (ss_if (L2.PW.pt (sw_or (st_not (vt_true (v_call g__law_is hr pass_top (v_cons (v_call g_needed_hide_cells hr pass_top (v_cons (v_var 8) (v_cons (v_var 9) sa_nil))) (v_cons (v_var 7) sa_nil))))) (L2.pw_or1 (vt_cmp (L2.op_neD (u64 U)) s_ne (v_call g_harmful_holes hr pass_top (v_cons (v_var 8) (v_cons (v_var 9) sa_nil))) (v_var 7))))) (ss_one
    (ss_ret se_bl)) ss_nil)
    (ss_one
    (ss_if (vt_cmp (op_gtV (u64 U)) (s_ord fun _ _ => rfl) (v_bltS call_lenV s_len m_len bt_len (L2.pv 10)) se_int) (ss_cons (v_set 12 nd (v_callH g__law_some hr pass_top (L2.pv 1) (v_cons (v_var 10) sa_nil)))
    (ss_cons (ss_if (st_not (vt_true (v_call g__law_is hr pass_top (v_cons (v_call g_with_hole hr pass_top (v_cons (v_var 8) (v_cons (v_var 12) sa_nil))) (v_cons (v_call g__law_holed hr pass_top (v_cons (v_var 8) (v_cons (v_var 12) sa_nil))) sa_nil))))) (ss_one
    (ss_ret se_bl)) ss_nil)
    (ss_one
    (ss_if (vt_cmp (L2.op_neD (u64 U)) s_ne (v_cmp op_isV s_is (v_call g_waste_of hr pass_top (v_cons (v_call g__law_holed hr pass_top (v_cons (v_var 8) (v_cons (v_var 12) sa_nil))) (v_cons (v_var 9) sa_nil))) se_non) (se_or (v_cmp (L2.op_eqD (u64 U)) s_eq (v_bltS call_lenV s_len m_len bt_len (L2.pv 11)) se_int) (pe_one (v_cmpS (op_inV (u65 U)) s_in (v_var 12) (L2.pv 7))))) (ss_one
    (ss_ret se_bl)) ss_nil)))) ss_nil))))))))))))))
    (ss_one
    (ss_ret se_bl))))
theorem ok_law {f : Addr} {fd : FuncData} (F : L2.Fun K "law" "law" st_law f fd) (hm : mg "law" = some (.ref f)) (g__law_hand : Good P w K mg base "_law_hand" 1 ["script"] F__law_hand) (g__law_hide : GoodH P w K mg base "_law_hide" 3 ["hand", "most"] F__law_hide) (g__law_sizes : GoodH P w K mg base "_law_sizes" 2 ["hand"] F__law_sizes) (g__law_cells : Good P w K mg base "_law_cells" 1 ["hide"] F__law_cells) (g__law_cuts : Good P w K mg base "_law_cuts" 3 ["hide", "sizes"] F__law_cuts) (g__law_lots : Good P w K mg base "_law_lots" 1 ["n"] F__law_lots) (g__law_is : Good P w K mg base "_law_is" 9 ["told", "due"] (F__law_is 8)) (g_most_cut : Good P w K mg base "most_cut" 6 ["hide", "sizes"] F_most_cut) (g_largest_leaf : Good P w K mg base "largest_leaf" 4 ["hide"] F_largest_leaf) (g__law_largest : Good P w K mg base "_law_largest" 2 ["hide"] F__law_largest) (g_waste_of : Good P w K mg base "waste_of" 6 ["hide", "sizes"] F_waste_of) (g_needed_hide_cells : Good P w K mg base "needed_hide_cells" 6 ["hide", "sizes"] F_needed_hide_cells) (g_harmful_holes : Good P w K mg base "harmful_holes" 6 ["hide", "sizes"] F_harmful_holes) (g__law_some : GoodH P w K mg base "_law_some" 2 ["hand", "things"] F__law_some) (g_with_hole : Good P w K mg base "with_hole" 4 ["hide", "cell"] F_with_hole) (g__law_holed : Good P w K mg base "_law_holed" 1 ["hide", "cell"] F__law_holed) (m_range : mg "range" = none) (m_len : mg "len" = none) (m_sum : mg "sum" = none) (m_tuple : mg "tuple" = none) (m_all : mg "all" = none) : Good P w K mg base "law" 10 ["script"] F_law := ⟨f, fd, okf_law F hm g__law_hand g__law_hide g__law_sizes g__law_cells g__law_cuts g__law_lots g__law_is g_most_cut g_largest_leaf g__law_largest g_waste_of g_needed_hide_cells g_harmful_holes g__law_some g_with_hole g__law_holed m_range m_len m_sum m_tuple m_all, hm, F.kp, F.binds (ps := ["script"]) fun _ _ _ _ _ _ us hl => match us, hl with | [_], _ => rfl⟩
end
end K85
namespace K85
open PySem PySem.Spec PyProof.Rows L2 PV
open PySem.W (minD maxD dataLt)
open Pc Sh
/-- the law's promise -/
def spLaw (K : PySem.W.Frag) : Sp := fun vs H Q _ => ∃ (a : Addr) (is : List Int), vs = [.ref a] ∧ SqL K H a (is.map V.int) ∧ is.length ≤ 63 ∧ Only H ∧ ∀ H', Q (.bl true) H'
theorem law_imp {K : PySem.W.Frag} {mg : Str → Option Value} {vs : List V} {H : Hp} {Q : VK} {E : XK} (h : spLaw K vs H Q E) : spP K mg 1 F_law vs H Q E := by
  obtain ⟨a, is, rfl, hs, hl, ho, q⟩ := h
  refine ⟨rfl, fun _ => False, [.scr is], fun _ h => h.elim, RpL.one (rp_scr.mpr ⟨a, rfl, ?_⟩), ?_⟩
  · rcases hs with (hs | hs) | hs
    · rcases ho a with z | ⟨o, xs, z⟩
      · rw [z] at hs; cases hs
      · rw [z] at hs; cases hs
    · exact .inl ⟨fun h => h, hs⟩
    · exact .inr hs
  · obtain ⟨oo, e⟩ : ∃ oo, F_law [.scr is] = .ok (.bl true, oo) := law85 is hl
    rw [e]
    intro z H' _ nr
    cases oo with
    | false =>
      have nr : Rp K H' (fun _ => False) (.bl true) z := nr
      rw [rp_bl] at nr
      subst nr
      exact q H'
    | true =>
      obtain ⟨p, _, _, h⟩ := nr
      exact h.elim
theorem all_mk {P : Program} {w : World} {K : PySem.W.Frag} {h : Heap} {mg : Str → Option Value} {fa : Addr} (X : K.In h) (G : h.Ns mainGlobals mg) (hfa : mg "law" = some (.ref fa))
    {fA0 : Addr} {od0 an0 : Option Addr} {sl0 : Array (Option Value)} {oc0 kV0 dc0 pm0 cd0 ct0 : Value} {fA1 : Addr} {od1 an1 : Option Addr} {sl1 : Array (Option Value)} {oc1 kV1 dc1 pm1 cd1 ct1 : Value} {fA2 : Addr} {od2 an2 : Option Addr} {sl2 : Array (Option Value)} {oc2 kV2 dc2 pm2 cd2 ct2 : Value} {fA3 : Addr} {od3 an3 : Option Addr} {sl3 : Array (Option Value)} {oc3 kV3 dc3 pm3 cd3 ct3 : Value} {fA4 : Addr} {od4 an4 : Option Addr} {sl4 : Array (Option Value)} {oc4 kV4 dc4 pm4 cd4 ct4 : Value} {fA5 : Addr} {od5 an5 : Option Addr} {sl5 : Array (Option Value)} {oc5 kV5 dc5 pm5 cd5 ct5 : Value} {fA6 : Addr} {od6 an6 : Option Addr} {sl6 : Array (Option Value)} {oc6 kV6 dc6 pm6 cd6 ct6 : Value} {fA7 : Addr} {od7 an7 : Option Addr} {sl7 : Array (Option Value)} {oc7 kV7 dc7 pm7 cd7 ct7 : Value} {fA8 : Addr} {od8 an8 : Option Addr} {sl8 : Array (Option Value)} {oc8 kV8 dc8 pm8 cd8 ct8 : Value} {fA9 : Addr} {od9 an9 : Option Addr} {sl9 : Array (Option Value)} {oc9 kV9 dc9 pm9 cd9 ct9 : Value} {fA10 : Addr} {od10 an10 : Option Addr} {sl10 : Array (Option Value)} {oc10 kV10 dc10 pm10 cd10 ct10 : Value} {fA11 : Addr} {od11 an11 : Option Addr} {sl11 : Array (Option Value)} {oc11 kV11 dc11 pm11 cd11 ct11 : Value} {fA12 : Addr} {od12 an12 : Option Addr} {sl12 : Array (Option Value)} {oc12 kV12 dc12 pm12 cd12 ct12 : Value} {fA13 : Addr} {od13 an13 : Option Addr} {sl13 : Array (Option Value)} {oc13 kV13 dc13 pm13 cd13 ct13 : Value} {fA14 : Addr} {od14 an14 : Option Addr} {sl14 : Array (Option Value)} {oc14 kV14 dc14 pm14 cd14 ct14 : Value} {fA15 : Addr} {od15 an15 : Option Addr} {sl15 : Array (Option Value)} {oc15 kV15 dc15 pm15 cd15 ct15 : Value} {fA16 : Addr} {od16 an16 : Option Addr} {sl16 : Array (Option Value)} {oc16 kV16 dc16 pm16 cd16 ct16 : Value} {fA17 : Addr} {od17 an17 : Option Addr} {sl17 : Array (Option Value)} {oc17 kV17 dc17 pm17 cd17 ct17 : Value} {fA18 : Addr} {od18 an18 : Option Addr} {sl18 : Array (Option Value)} {oc18 kV18 dc18 pm18 cd18 ct18 : Value} {fA19 : Addr} {od19 an19 : Option Addr} {sl19 : Array (Option Value)} {oc19 kV19 dc19 pm19 cd19 ct19 : Value} {fA20 : Addr} {od20 an20 : Option Addr} {sl20 : Array (Option Value)} {oc20 kV20 dc20 pm20 cd20 ct20 : Value} {fA21 : Addr} {od21 an21 : Option Addr} {sl21 : Array (Option Value)} {oc21 kV21 dc21 pm21 cd21 ct21 : Value} {fA22 : Addr} {od22 an22 : Option Addr} {sl22 : Array (Option Value)} {oc22 kV22 dc22 pm22 cd22 ct22 : Value} {fA23 : Addr} {od23 an23 : Option Addr} {sl23 : Array (Option Value)} {oc23 kV23 dc23 pm23 cd23 ct23 : Value} {fA24 : Addr} {od24 an24 : Option Addr} {sl24 : Array (Option Value)} {oc24 kV24 dc24 pm24 cd24 ct24 : Value} {fA25 : Addr} {od25 an25 : Option Addr} {sl25 : Array (Option Value)} {oc25 kV25 dc25 pm25 cd25 ct25 : Value} {fA26 : Addr} {od26 an26 : Option Addr} {sl26 : Array (Option Value)} {oc26 kV26 dc26 pm26 cd26 ct26 : Value} {fA27 : Addr} {od27 an27 : Option Addr} {sl27 : Array (Option Value)} {oc27 kV27 dc27 pm27 cd27 ct27 : Value} {fA28 : Addr} {od28 an28 : Option Addr} {sl28 : Array (Option Value)} {oc28 kV28 dc28 pm28 cd28 ct28 : Value} {fA29 : Addr} {od29 an29 : Option Addr} {sl29 : Array (Option Value)} {oc29 kV29 dc29 pm29 cd29 ct29 : Value} {fA30 : Addr} {od30 an30 : Option Addr} {sl30 : Array (Option Value)} {oc30 kV30 dc30 pm30 cd30 ct30 : Value} {fA31 : Addr} {od31 an31 : Option Addr} {sl31 : Array (Option Value)} {oc31 kV31 dc31 pm31 cd31 ct31 : Value} {fA32 : Addr} {od32 an32 : Option Addr} {sl32 : Array (Option Value)} {oc32 kV32 dc32 pm32 cd32 ct32 : Value} {fA33 : Addr} {od33 an33 : Option Addr} {sl33 : Array (Option Value)} {oc33 kV33 dc33 pm33 cd33 ct33 : Value} {fA34 : Addr} {od34 an34 : Option Addr} {sl34 : Array (Option Value)} {oc34 kV34 dc34 pm34 cd34 ct34 : Value} {fA35 : Addr} {od35 an35 : Option Addr} {sl35 : Array (Option Value)} {oc35 kV35 dc35 pm35 cd35 ct35 : Value} {t_MOST_SIDE : Tok} {t_MOST_SIZE : Tok} {t_MOST_LEAVES : Tok}
    (a0 : PySem.W.nsIn K mainGlobals "is_integer" = some (some (.ref fA0)))
    (l0 : K.lookup fA0 = some ⟨oc0, od0, .func (PySem.W.fnOf "is_integer" "is_integer" (defArgs st_is_integer) (defBody st_is_integer) (defScope st_is_integer) .none kV0 dc0 pm0 an0 cd0 ct0), sl0⟩)
    (c0 : PySem.W.codeIn K cd0 "is_integer" = true)
    (k0 : PySem.W.keepIn K (.ref fA0) = true)
    (a1 : PySem.W.nsIn K mainGlobals "is_within" = some (some (.ref fA1)))
    (l1 : K.lookup fA1 = some ⟨oc1, od1, .func (PySem.W.fnOf "is_within" "is_within" (defArgs st_is_within) (defBody st_is_within) (defScope st_is_within) .none kV1 dc1 pm1 an1 cd1 ct1), sl1⟩)
    (c1 : PySem.W.codeIn K cd1 "is_within" = true)
    (k1 : PySem.W.keepIn K (.ref fA1) = true)
    (a2 : PySem.W.nsIn K mainGlobals "is_sized" = some (some (.ref fA2)))
    (l2 : K.lookup fA2 = some ⟨oc2, od2, .func (PySem.W.fnOf "is_sized" "is_sized" (defArgs st_is_sized) (defBody st_is_sized) (defScope st_is_sized) .none kV2 dc2 pm2 an2 cd2 ct2), sl2⟩)
    (c2 : PySem.W.codeIn K cd2 "is_sized" = true)
    (k2 : PySem.W.keepIn K (.ref fA2) = true)
    (a3 : PySem.W.nsIn K mainGlobals "all_lots" = some (some (.ref fA3)))
    (l3 : K.lookup fA3 = some ⟨oc3, od3, .func (PySem.W.fnOf "all_lots" "all_lots" (defArgs st_all_lots) (defBody st_all_lots) (defScope st_all_lots) .none kV3 dc3 pm3 an3 cd3 ct3), sl3⟩)
    (c3 : PySem.W.codeIn K cd3 "all_lots" = true)
    (k3 : PySem.W.keepIn K (.ref fA3) = true)
    (a4 : PySem.W.nsIn K mainGlobals "is_hide" = some (some (.ref fA4)))
    (l4 : K.lookup fA4 = some ⟨oc4, od4, .func (PySem.W.fnOf "is_hide" "is_hide" (defArgs st_is_hide) (defBody st_is_hide) (defScope st_is_hide) .none kV4 dc4 pm4 an4 cd4 ct4), sl4⟩)
    (c4 : PySem.W.codeIn K cd4 "is_hide" = true)
    (k4 : PySem.W.keepIn K (.ref fA4) = true)
    (a5 : PySem.W.nsIn K mainGlobals "check_hide" = some (some (.ref fA5)))
    (l5 : K.lookup fA5 = some ⟨oc5, od5, .func (PySem.W.fnOf "check_hide" "check_hide" (defArgs st_check_hide) (defBody st_check_hide) (defScope st_check_hide) .none kV5 dc5 pm5 an5 cd5 ct5), sl5⟩)
    (c5 : PySem.W.codeIn K cd5 "check_hide" = true)
    (k5 : PySem.W.keepIn K (.ref fA5) = true)
    (a6 : PySem.W.nsIn K mainGlobals "is_size" = some (some (.ref fA6)))
    (l6 : K.lookup fA6 = some ⟨oc6, od6, .func (PySem.W.fnOf "is_size" "is_size" (defArgs st_is_size) (defBody st_is_size) (defScope st_is_size) .none kV6 dc6 pm6 an6 cd6 ct6), sl6⟩)
    (c6 : PySem.W.codeIn K cd6 "is_size" = true)
    (k6 : PySem.W.keepIn K (.ref fA6) = true)
    (a7 : PySem.W.nsIn K mainGlobals "are_leaf_sizes" = some (some (.ref fA7)))
    (l7 : K.lookup fA7 = some ⟨oc7, od7, .func (PySem.W.fnOf "are_leaf_sizes" "are_leaf_sizes" (defArgs st_are_leaf_sizes) (defBody st_are_leaf_sizes) (defScope st_are_leaf_sizes) .none kV7 dc7 pm7 an7 cd7 ct7), sl7⟩)
    (c7 : PySem.W.codeIn K cd7 "are_leaf_sizes" = true)
    (k7 : PySem.W.keepIn K (.ref fA7) = true)
    (a8 : PySem.W.nsIn K mainGlobals "check_sizes" = some (some (.ref fA8)))
    (l8 : K.lookup fA8 = some ⟨oc8, od8, .func (PySem.W.fnOf "check_sizes" "check_sizes" (defArgs st_check_sizes) (defBody st_check_sizes) (defScope st_check_sizes) .none kV8 dc8 pm8 an8 cd8 ct8), sl8⟩)
    (c8 : PySem.W.codeIn K cd8 "check_sizes" = true)
    (k8 : PySem.W.keepIn K (.ref fA8) = true)
    (a9 : PySem.W.nsIn K mainGlobals "raw_good" = some (some (.ref fA9)))
    (l9 : K.lookup fA9 = some ⟨oc9, od9, .func (PySem.W.fnOf "raw_good" "raw_good" (defArgs st_raw_good) (defBody st_raw_good) (defScope st_raw_good) .none kV9 dc9 pm9 an9 cd9 ct9), sl9⟩)
    (c9 : PySem.W.codeIn K cd9 "raw_good" = true)
    (k9 : PySem.W.keepIn K (.ref fA9) = true)
    (a10 : PySem.W.nsIn K mainGlobals "cells_of_cut" = some (some (.ref fA10)))
    (l10 : K.lookup fA10 = some ⟨oc10, od10, .func (PySem.W.fnOf "cells_of_cut" "cells_of_cut" (defArgs st_cells_of_cut) (defBody st_cells_of_cut) (defScope st_cells_of_cut) .none kV10 dc10 pm10 an10 cd10 ct10), sl10⟩)
    (c10 : PySem.W.codeIn K cd10 "cells_of_cut" = true)
    (k10 : PySem.W.keepIn K (.ref fA10) = true)
    (a11 : PySem.W.nsIn K mainGlobals "raw_places" = some (some (.ref fA11)))
    (l11 : K.lookup fA11 = some ⟨oc11, od11, .func (PySem.W.fnOf "raw_places" "raw_places" (defArgs st_raw_places) (defBody st_raw_places) (defScope st_raw_places) .none kV11 dc11 pm11 an11 cd11 ct11), sl11⟩)
    (c11 : PySem.W.codeIn K cd11 "raw_places" = true)
    (k11 : PySem.W.keepIn K (.ref fA11) = true)
    (a12 : PySem.W.nsIn K mainGlobals "rows_of_cuts" = some (some (.ref fA12)))
    (l12 : K.lookup fA12 = some ⟨oc12, od12, .func (PySem.W.fnOf "rows_of_cuts" "rows_of_cuts" (defArgs st_rows_of_cuts) (defBody st_rows_of_cuts) (defScope st_rows_of_cuts) .none kV12 dc12 pm12 an12 cd12 ct12), sl12⟩)
    (c12 : PySem.W.codeIn K cd12 "rows_of_cuts" = true)
    (k12 : PySem.W.keepIn K (.ref fA12) = true)
    (a13 : PySem.W.nsIn K mainGlobals "hide_cuts" = some (some (.ref fA13)))
    (l13 : K.lookup fA13 = some ⟨oc13, od13, .func (PySem.W.fnOf "hide_cuts" "hide_cuts" (defArgs st_hide_cuts) (defBody st_hide_cuts) (defScope st_hide_cuts) .none kV13 dc13 pm13 an13 cd13 ct13), sl13⟩)
    (c13 : PySem.W.codeIn K cd13 "hide_cuts" = true)
    (k13 : PySem.W.keepIn K (.ref fA13) = true)
    (a14 : PySem.W.nsIn K mainGlobals "needed_cells" = some (some (.ref fA14)))
    (l14 : K.lookup fA14 = some ⟨oc14, od14, .func (PySem.W.fnOf "needed_cells" "needed_cells" (defArgs st_needed_cells) (defBody st_needed_cells) (defScope st_needed_cells) .none kV14 dc14 pm14 an14 cd14 ct14), sl14⟩)
    (c14 : PySem.W.codeIn K cd14 "needed_cells" = true)
    (k14 : PySem.W.keepIn K (.ref fA14) = true)
    (a15 : PySem.W.nsIn K mainGlobals "most_cut" = some (some (.ref fA15)))
    (l15 : K.lookup fA15 = some ⟨oc15, od15, .func (PySem.W.fnOf "most_cut" "most_cut" (defArgs st_most_cut) (defBody st_most_cut) (defScope st_most_cut) .none kV15 dc15 pm15 an15 cd15 ct15), sl15⟩)
    (c15 : PySem.W.codeIn K cd15 "most_cut" = true)
    (k15 : PySem.W.keepIn K (.ref fA15) = true)
    (a16 : PySem.W.nsIn K mainGlobals "largest_leaf" = some (some (.ref fA16)))
    (l16 : K.lookup fA16 = some ⟨oc16, od16, .func (PySem.W.fnOf "largest_leaf" "largest_leaf" (defArgs st_largest_leaf) (defBody st_largest_leaf) (defScope st_largest_leaf) .none kV16 dc16 pm16 an16 cd16 ct16), sl16⟩)
    (c16 : PySem.W.codeIn K cd16 "largest_leaf" = true)
    (k16 : PySem.W.keepIn K (.ref fA16) = true)
    (a17 : PySem.W.nsIn K mainGlobals "waste_of" = some (some (.ref fA17)))
    (l17 : K.lookup fA17 = some ⟨oc17, od17, .func (PySem.W.fnOf "waste_of" "waste_of" (defArgs st_waste_of) (defBody st_waste_of) (defScope st_waste_of) .none kV17 dc17 pm17 an17 cd17 ct17), sl17⟩)
    (c17 : PySem.W.codeIn K cd17 "waste_of" = true)
    (k17 : PySem.W.keepIn K (.ref fA17) = true)
    (a18 : PySem.W.nsIn K mainGlobals "needed_hide_cells" = some (some (.ref fA18)))
    (l18 : K.lookup fA18 = some ⟨oc18, od18, .func (PySem.W.fnOf "needed_hide_cells" "needed_hide_cells" (defArgs st_needed_hide_cells) (defBody st_needed_hide_cells) (defScope st_needed_hide_cells) .none kV18 dc18 pm18 an18 cd18 ct18), sl18⟩)
    (c18 : PySem.W.codeIn K cd18 "needed_hide_cells" = true)
    (k18 : PySem.W.keepIn K (.ref fA18) = true)
    (a19 : PySem.W.nsIn K mainGlobals "raw_hole" = some (some (.ref fA19)))
    (l19 : K.lookup fA19 = some ⟨oc19, od19, .func (PySem.W.fnOf "raw_hole" "raw_hole" (defArgs st_raw_hole) (defBody st_raw_hole) (defScope st_raw_hole) .none kV19 dc19 pm19 an19 cd19 ct19), sl19⟩)
    (c19 : PySem.W.codeIn K cd19 "raw_hole" = true)
    (k19 : PySem.W.keepIn K (.ref fA19) = true)
    (a20 : PySem.W.nsIn K mainGlobals "with_hole" = some (some (.ref fA20)))
    (l20 : K.lookup fA20 = some ⟨oc20, od20, .func (PySem.W.fnOf "with_hole" "with_hole" (defArgs st_with_hole) (defBody st_with_hole) (defScope st_with_hole) .none kV20 dc20 pm20 an20 cd20 ct20), sl20⟩)
    (c20 : PySem.W.codeIn K cd20 "with_hole" = true)
    (k20 : PySem.W.keepIn K (.ref fA20) = true)
    (a21 : PySem.W.nsIn K mainGlobals "harmful_holes" = some (some (.ref fA21)))
    (l21 : K.lookup fA21 = some ⟨oc21, od21, .func (PySem.W.fnOf "harmful_holes" "harmful_holes" (defArgs st_harmful_holes) (defBody st_harmful_holes) (defScope st_harmful_holes) .none kV21 dc21 pm21 an21 cd21 ct21), sl21⟩)
    (c21 : PySem.W.codeIn K cd21 "harmful_holes" = true)
    (k21 : PySem.W.keepIn K (.ref fA21) = true)
    (a22 : PySem.W.nsIn K mainGlobals "_law_hand" = some (some (.ref fA22)))
    (l22 : K.lookup fA22 = some ⟨oc22, od22, .func (PySem.W.fnOf "_law_hand" "_law_hand" (defArgs st__law_hand) (defBody st__law_hand) (defScope st__law_hand) .none kV22 dc22 pm22 an22 cd22 ct22), sl22⟩)
    (c22 : PySem.W.codeIn K cd22 "_law_hand" = true)
    (k22 : PySem.W.keepIn K (.ref fA22) = true)
    (a23 : PySem.W.nsIn K mainGlobals "_law_draw" = some (some (.ref fA23)))
    (l23 : K.lookup fA23 = some ⟨oc23, od23, .func (PySem.W.fnOf "_law_draw" "_law_draw" (defArgs st__law_draw) (defBody st__law_draw) (defScope st__law_draw) .none kV23 dc23 pm23 an23 cd23 ct23), sl23⟩)
    (c23 : PySem.W.codeIn K cd23 "_law_draw" = true)
    (k23 : PySem.W.keepIn K (.ref fA23) = true)
    (a24 : PySem.W.nsIn K mainGlobals "_law_some" = some (some (.ref fA24)))
    (l24 : K.lookup fA24 = some ⟨oc24, od24, .func (PySem.W.fnOf "_law_some" "_law_some" (defArgs st__law_some) (defBody st__law_some) (defScope st__law_some) .none kV24 dc24 pm24 an24 cd24 ct24), sl24⟩)
    (c24 : PySem.W.codeIn K cd24 "_law_some" = true)
    (k24 : PySem.W.keepIn K (.ref fA24) = true)
    (a25 : PySem.W.nsIn K mainGlobals "_law_hide" = some (some (.ref fA25)))
    (l25 : K.lookup fA25 = some ⟨oc25, od25, .func (PySem.W.fnOf "_law_hide" "_law_hide" (defArgs st__law_hide) (defBody st__law_hide) (defScope st__law_hide) .none kV25 dc25 pm25 an25 cd25 ct25), sl25⟩)
    (c25 : PySem.W.codeIn K cd25 "_law_hide" = true)
    (k25 : PySem.W.keepIn K (.ref fA25) = true)
    (a26 : PySem.W.nsIn K mainGlobals "_law_cells" = some (some (.ref fA26)))
    (l26 : K.lookup fA26 = some ⟨oc26, od26, .func (PySem.W.fnOf "_law_cells" "_law_cells" (defArgs st__law_cells) (defBody st__law_cells) (defScope st__law_cells) .none kV26 dc26 pm26 an26 cd26 ct26), sl26⟩)
    (c26 : PySem.W.codeIn K cd26 "_law_cells" = true)
    (k26 : PySem.W.keepIn K (.ref fA26) = true)
    (a27 : PySem.W.nsIn K mainGlobals "_law_covered" = some (some (.ref fA27)))
    (l27 : K.lookup fA27 = some ⟨oc27, od27, .func (PySem.W.fnOf "_law_covered" "_law_covered" (defArgs st__law_covered) (defBody st__law_covered) (defScope st__law_covered) .none kV27 dc27 pm27 an27 cd27 ct27), sl27⟩)
    (c27 : PySem.W.codeIn K cd27 "_law_covered" = true)
    (k27 : PySem.W.keepIn K (.ref fA27) = true)
    (a28 : PySem.W.nsIn K mainGlobals "_law_places" = some (some (.ref fA28)))
    (l28 : K.lookup fA28 = some ⟨oc28, od28, .func (PySem.W.fnOf "_law_places" "_law_places" (defArgs st__law_places) (defBody st__law_places) (defScope st__law_places) .none kV28 dc28 pm28 an28 cd28 ct28), sl28⟩)
    (c28 : PySem.W.codeIn K cd28 "_law_places" = true)
    (k28 : PySem.W.keepIn K (.ref fA28) = true)
    (a29 : PySem.W.nsIn K mainGlobals "_law_cuts" = some (some (.ref fA29)))
    (l29 : K.lookup fA29 = some ⟨oc29, od29, .func (PySem.W.fnOf "_law_cuts" "_law_cuts" (defArgs st__law_cuts) (defBody st__law_cuts) (defScope st__law_cuts) .none kV29 dc29 pm29 an29 cd29 ct29), sl29⟩)
    (c29 : PySem.W.codeIn K cd29 "_law_cuts" = true)
    (k29 : PySem.W.keepIn K (.ref fA29) = true)
    (a30 : PySem.W.nsIn K mainGlobals "_law_sizes" = some (some (.ref fA30)))
    (l30 : K.lookup fA30 = some ⟨oc30, od30, .func (PySem.W.fnOf "_law_sizes" "_law_sizes" (defArgs st__law_sizes) (defBody st__law_sizes) (defScope st__law_sizes) .none kV30 dc30 pm30 an30 cd30 ct30), sl30⟩)
    (c30 : PySem.W.codeIn K cd30 "_law_sizes" = true)
    (k30 : PySem.W.keepIn K (.ref fA30) = true)
    (a31 : PySem.W.nsIn K mainGlobals "_law_holed" = some (some (.ref fA31)))
    (l31 : K.lookup fA31 = some ⟨oc31, od31, .func (PySem.W.fnOf "_law_holed" "_law_holed" (defArgs st__law_holed) (defBody st__law_holed) (defScope st__law_holed) .none kV31 dc31 pm31 an31 cd31 ct31), sl31⟩)
    (c31 : PySem.W.codeIn K cd31 "_law_holed" = true)
    (k31 : PySem.W.keepIn K (.ref fA31) = true)
    (a32 : PySem.W.nsIn K mainGlobals "_law_is" = some (some (.ref fA32)))
    (l32 : K.lookup fA32 = some ⟨oc32, od32, .func (PySem.W.fnOf "_law_is" "_law_is" (defArgs st__law_is) (defBody st__law_is) (defScope st__law_is) .none kV32 dc32 pm32 an32 cd32 ct32), sl32⟩)
    (c32 : PySem.W.codeIn K cd32 "_law_is" = true)
    (k32 : PySem.W.keepIn K (.ref fA32) = true)
    (a33 : PySem.W.nsIn K mainGlobals "_law_lots" = some (some (.ref fA33)))
    (l33 : K.lookup fA33 = some ⟨oc33, od33, .func (PySem.W.fnOf "_law_lots" "_law_lots" (defArgs st__law_lots) (defBody st__law_lots) (defScope st__law_lots) .none kV33 dc33 pm33 an33 cd33 ct33), sl33⟩)
    (c33 : PySem.W.codeIn K cd33 "_law_lots" = true)
    (k33 : PySem.W.keepIn K (.ref fA33) = true)
    (a34 : PySem.W.nsIn K mainGlobals "_law_largest" = some (some (.ref fA34)))
    (l34 : K.lookup fA34 = some ⟨oc34, od34, .func (PySem.W.fnOf "_law_largest" "_law_largest" (defArgs st__law_largest) (defBody st__law_largest) (defScope st__law_largest) .none kV34 dc34 pm34 an34 cd34 ct34), sl34⟩)
    (c34 : PySem.W.codeIn K cd34 "_law_largest" = true)
    (k34 : PySem.W.keepIn K (.ref fA34) = true)
    (a35 : PySem.W.nsIn K mainGlobals "law" = some (some (.ref fA35)))
    (l35 : K.lookup fA35 = some ⟨oc35, od35, .func (PySem.W.fnOf "law" "law" (defArgs st_law) (defBody st_law) (defScope st_law) .none kV35 dc35 pm35 an35 cd35 ct35), sl35⟩)
    (c35 : PySem.W.codeIn K cd35 "law" = true)
    (k35 : PySem.W.keepIn K (.ref fA35) = true)
    (z_isinstance : PySem.W.nsIn K mainGlobals "isinstance" = some none)
    (z_int : PySem.W.nsIn K mainGlobals "int" = some none)
    (z_bool : PySem.W.nsIn K mainGlobals "bool" = some none)
    (z_tuple : PySem.W.nsIn K mainGlobals "tuple" = some none)
    (z_len : PySem.W.nsIn K mainGlobals "len" = some none)
    (z_sorted : PySem.W.nsIn K mainGlobals "sorted" = some none)
    (z_all : PySem.W.nsIn K mainGlobals "all" = some none)
    (z_str : PySem.W.nsIn K mainGlobals "str" = some none)
    (z_any : PySem.W.nsIn K mainGlobals "any" = some none)
    (z_enumerate : PySem.W.nsIn K mainGlobals "enumerate" = some none)
    (z_range : PySem.W.nsIn K mainGlobals "range" = some none)
    (z_sum : PySem.W.nsIn K mainGlobals "sum" = some none)
    (z_list : PySem.W.nsIn K mainGlobals "list" = some none)
    (z_max : PySem.W.nsIn K mainGlobals "max" = some none)
    (z_min : PySem.W.nsIn K mainGlobals "min" = some none)
    (z_abs : PySem.W.nsIn K mainGlobals "abs" = some none)
    (z_zip : PySem.W.nsIn K mainGlobals "zip" = some none)
    (z_dict : PySem.W.nsIn K mainGlobals "dict" = some none)
    (y_MOST_SIDE : PySem.W.nsIn K mainGlobals "MOST_SIDE" = some (some (.int 5 t_MOST_SIDE)))
    (y_MOST_SIZE : PySem.W.nsIn K mainGlobals "MOST_SIZE" = some (some (.int 4 t_MOST_SIZE)))
    (y_MOST_LEAVES : PySem.W.nsIn K mainGlobals "MOST_LEAVES" = some (some (.int 3 t_MOST_LEAVES))) :
    ∃ fd : FuncData, (∀ (s : Shared) (v : Value), BindsTo s fd ⟨[v], []⟩ [("script", v)]) ∧ ∀ base : Heap, K.In base → base.Ns mainGlobals mg → FnOk P w K mg base (L2.CX P w) 10 fa fd ["script"] (spLaw K) := by
  have e := hfa.symm.trans (PySem.W.mg_of X G a35)
  cases e
  refine ⟨PySem.W.fnOf "law" "law" (defArgs st_law) (defBody st_law) (defScope st_law) .none kV35 dc35 pm35 an35 cd35 ct35, fun s v => .of_eq rfl, fun base _ _ => ?_⟩
  have g_is_integer := ok_is_integer (P := P) (w := w) (base := base) (fun_mk (st := st_is_integer) l0 c0 k0) (PySem.W.mg_of X G a0) (PySem.W.mg_none_of X G z_isinstance) (PySem.W.mg_none_of X G z_int) (PySem.W.mg_none_of X G z_bool)
  have g_is_within := ok_is_within (P := P) (w := w) (base := base) (fun_mk (st := st_is_within) l1 c1 k1) (PySem.W.mg_of X G a1) g_is_integer
  have g_is_sized := ok_is_sized (P := P) (w := w) (base := base) (fun_mk (st := st_is_sized) l2 c2 k2) (PySem.W.mg_of X G a2) (PySem.W.mg_none_of X G z_isinstance) (PySem.W.mg_none_of X G z_tuple) (PySem.W.mg_none_of X G z_len)
  have g_all_lots := ok_all_lots (P := P) (w := w) (base := base) (fun_mk (st := st_all_lots) l3 c3 k3) (PySem.W.mg_of X G a3) (PySem.W.mg_none_of X G z_sorted) (PySem.W.mg_none_of X G z_len)
  have g_is_hide := ok_is_hide (P := P) (w := w) (base := base) (fun_mk (st := st_is_hide) l4 c4 k4) (PySem.W.mg_of X G a4) g_is_sized (PySem.W.mg_none_of X G z_all) (PySem.W.mg_none_of X G z_isinstance) (PySem.W.mg_none_of X G z_str) (PySem.W.mg_none_of X G z_len) (PySem.W.mg_none_of X G z_any) ⟨_, PySem.W.mg_of X G y_MOST_SIDE⟩
  have g_check_hide := ok_check_hide (P := P) (w := w) (base := base) (fun_mk (st := st_check_hide) l5 c5 k5) (PySem.W.mg_of X G a5) g_is_hide
  have g_is_size := ok_is_size (P := P) (w := w) (base := base) (fun_mk (st := st_is_size) l6 c6 k6) (PySem.W.mg_of X G a6) g_is_sized g_is_within (PySem.W.mg_none_of X G z_all) ⟨_, PySem.W.mg_of X G y_MOST_SIZE⟩
  have g_are_leaf_sizes := ok_are_leaf_sizes (P := P) (w := w) (base := base) (fun_mk (st := st_are_leaf_sizes) l7 c7 k7) (PySem.W.mg_of X G a7) g_is_sized g_is_size (PySem.W.mg_none_of X G z_all) ⟨_, PySem.W.mg_of X G y_MOST_LEAVES⟩
  have g_check_sizes := ok_check_sizes (P := P) (w := w) (base := base) (fun_mk (st := st_check_sizes) l8 c8 k8) (PySem.W.mg_of X G a8) g_check_hide g_are_leaf_sizes
  have g_raw_good := ok_raw_good (P := P) (w := w) (base := base) (fun_mk (st := st_raw_good) l9 c9 k9) (PySem.W.mg_of X G a9) (PySem.W.mg_none_of X G z_enumerate)
  have g_cells_of_cut := ok_cells_of_cut (P := P) (w := w) (base := base) (fun_mk (st := st_cells_of_cut) l10 c10 k10) (PySem.W.mg_of X G a10) (PySem.W.mg_none_of X G z_range)
  have g_raw_places := ok_raw_places (P := P) (w := w) (base := base) (fun_mk (st := st_raw_places) l11 c11 k11) (PySem.W.mg_of X G a11) g_raw_good g_cells_of_cut (PySem.W.mg_none_of X G z_all)
  have g_rows_of_cuts := ok_rows_of_cuts (P := P) (w := w) (base := base) (fun_mk (st := st_rows_of_cuts) l12 c12 k12) (PySem.W.mg_of X G a12) g_raw_places g_cells_of_cut (PySem.W.mg_none_of X G z_tuple) (PySem.W.mg_none_of X G z_any)
  have g_hide_cuts := ok_hide_cuts (P := P) (w := w) (base := base) (fun_mk (st := st_hide_cuts) l13 c13 k13) (PySem.W.mg_of X G a13) g_rows_of_cuts
  have g_needed_cells := ok_needed_cells (P := P) (w := w) (base := base) (fun_mk (st := st_needed_cells) l14 c14 k14) (PySem.W.mg_of X G a14) (PySem.W.mg_none_of X G z_sum)
  have g_most_cut := ok_most_cut (P := P) (w := w) (base := base) (fun_mk (st := st_most_cut) l15 c15 k15) (PySem.W.mg_of X G a15) g_check_sizes g_all_lots g_hide_cuts (PySem.W.mg_none_of X G z_list) (PySem.W.mg_none_of X G z_range) (PySem.W.mg_none_of X G z_len) (PySem.W.mg_none_of X G z_max) (PySem.W.mg_none_of X G z_min)
  have g_largest_leaf := ok_largest_leaf (P := P) (w := w) (base := base) (fun_mk (st := st_largest_leaf) l16 c16 k16) (PySem.W.mg_of X G a16) g_check_hide g_raw_good g_cells_of_cut (PySem.W.mg_none_of X G z_range) (PySem.W.mg_none_of X G z_all) ⟨_, PySem.W.mg_of X G y_MOST_SIDE⟩
  have g_waste_of := ok_waste_of (P := P) (w := w) (base := base) (fun_mk (st := st_waste_of) l17 c17 k17) (PySem.W.mg_of X G a17) g_check_sizes g_hide_cuts g_raw_good g_needed_cells (PySem.W.mg_none_of X G z_len)
  have g_needed_hide_cells := ok_needed_hide_cells (P := P) (w := w) (base := base) (fun_mk (st := st_needed_hide_cells) l18 c18 k18) (PySem.W.mg_of X G a18) g_check_sizes g_hide_cuts g_raw_good (PySem.W.mg_none_of X G z_tuple) (PySem.W.mg_none_of X G z_all)
  have g_raw_hole := ok_raw_hole (P := P) (w := w) (base := base) (fun_mk (st := st_raw_hole) l19 c19 k19) (PySem.W.mg_of X G a19)
  have g_with_hole := ok_with_hole (P := P) (w := w) (base := base) (fun_mk (st := st_with_hole) l20 c20 k20) (PySem.W.mg_of X G a20) g_check_hide g_is_sized g_is_within g_raw_good g_raw_hole (PySem.W.mg_none_of X G z_all) ⟨_, PySem.W.mg_of X G y_MOST_SIDE⟩
  have g_harmful_holes := ok_harmful_holes (P := P) (w := w) (base := base) (fun_mk (st := st_harmful_holes) l21 c21 k21) (PySem.W.mg_of X G a21) g_check_sizes g_hide_cuts g_raw_good g_raw_hole (PySem.W.mg_none_of X G z_tuple)
  have g__law_hand := ok__law_hand (P := P) (w := w) (base := base) (fun_mk (st := st__law_hand) l22 c22 k22) (PySem.W.mg_of X G a22) (PySem.W.mg_none_of X G z_abs) (PySem.W.mg_none_of X G z_int) (PySem.W.mg_none_of X G z_len)
  have g__law_draw := ok__law_draw (P := P) (w := w) (base := base) (fun_mk (st := st__law_draw) l23 c23 k23) (PySem.W.mg_of X G a23) (PySem.W.mg_none_of X G z_len) (PySem.W.mg_none_of X G z_int)
  have g__law_some := ok__law_some (P := P) (w := w) (base := base) (fun_mk (st := st__law_some) l24 c24 k24) (PySem.W.mg_of X G a24) g__law_draw (PySem.W.mg_none_of X G z_len)
  have g__law_hide := ok__law_hide (P := P) (w := w) (base := base) (fun_mk (st := st__law_hide) l25 c25 k25) (PySem.W.mg_of X G a25) g__law_draw g__law_some (PySem.W.mg_none_of X G z_range)
  have g__law_cells := ok__law_cells (P := P) (w := w) (base := base) (fun_mk (st := st__law_cells) l26 c26 k26) (PySem.W.mg_of X G a26) (PySem.W.mg_none_of X G z_enumerate)
  have g__law_covered := ok__law_covered (P := P) (w := w) (base := base) (fun_mk (st := st__law_covered) l27 c27 k27) (PySem.W.mg_of X G a27) (PySem.W.mg_none_of X G z_range)
  have g__law_places := ok__law_places (P := P) (w := w) (base := base) (fun_mk (st := st__law_places) l28 c28 k28) (PySem.W.mg_of X G a28) g__law_cells g__law_covered (PySem.W.mg_none_of X G z_all)
  have g__law_cuts := ok__law_cuts (P := P) (w := w) (base := base) (fun_mk (st := st__law_cuts) l29 c29 k29) (PySem.W.mg_of X G a29) g__law_places g__law_covered (PySem.W.mg_none_of X G z_any) (PySem.W.mg_none_of X G z_tuple)
  have g__law_sizes := ok__law_sizes (P := P) (w := w) (base := base) (fun_mk (st := st__law_sizes) l30 c30 k30) (PySem.W.mg_of X G a30) g__law_draw (PySem.W.mg_none_of X G z_range)
  have g__law_holed := ok__law_holed (P := P) (w := w) (base := base) (fun_mk (st := st__law_holed) l31 c31 k31) (PySem.W.mg_of X G a31)
  have g__law_is := ok__law_is (P := P) (w := w) (base := base) (fun_mk (st := st__law_is) l32 c32 k32) (PySem.W.mg_of X G a32) (PySem.W.mg_none_of X G z_isinstance) (PySem.W.mg_none_of X G z_tuple) (PySem.W.mg_none_of X G z_list) (PySem.W.mg_none_of X G z_len) (PySem.W.mg_none_of X G z_all) (PySem.W.mg_none_of X G z_zip) (PySem.W.mg_none_of X G z_dict) (PySem.W.mg_none_of X G z_str) (PySem.W.mg_none_of X G z_int) (PySem.W.mg_none_of X G z_bool)
  have g__law_lots := ok__law_lots (P := P) (w := w) (base := base) (fun_mk (st := st__law_lots) l33 c33 k33) (PySem.W.mg_of X G a33) (PySem.W.mg_none_of X G z_range) (PySem.W.mg_none_of X G z_sorted) (PySem.W.mg_none_of X G z_len)
  have g__law_largest := ok__law_largest (P := P) (w := w) (base := base) (fun_mk (st := st__law_largest) l34 c34 k34) (PySem.W.mg_of X G a34) g__law_cells g__law_covered (PySem.W.mg_none_of X G z_range) (PySem.W.mg_none_of X G z_any) (PySem.W.mg_none_of X G z_all)
  exact (okf_law (P := P) (w := w) (base := base) (fun_mk (st := st_law) l35 c35 k35) (PySem.W.mg_of X G a35) g__law_hand g__law_hide g__law_sizes g__law_cells g__law_cuts g__law_lots g__law_is g_most_cut g_largest_leaf g__law_largest g_waste_of g_needed_hide_cells g_harmful_holes g__law_some g_with_hole g__law_holed (PySem.W.mg_none_of X G z_range) (PySem.W.mg_none_of X G z_len) (PySem.W.mg_none_of X G z_sum) (PySem.W.mg_none_of X G z_tuple) (PySem.W.mg_none_of X G z_all)).imp fun vs H Q E h => law_imp h
end K85
open PySem PySem.W PyProof.Rows
set_option maxHeartbeats 0 in
theorem PySem.Challenge.cw_scriptoria_k85_whole_waste_and_holes_holds : PySem.Challenge.rw_scriptoria_k85_whole_waste_and_holes.Holds := by
  w_on; o_law; k_head; (case hw => w_witness2)
  k_fill
  refine L2.walk_of (l := PySem.Challenge.rw_scriptoria_k85_whole_waste_and_holes) (n := 63) (k := 10) (x := "script") (CX := fun w => L2.CX (PySem.Challenge.rw_scriptoria_k85_whole_waste_and_holes).prog w) (sp := fun w => K85.spLaw _) rfl (by decide) rfl ⟨rfl, by decide, by decide⟩ (fun w h Y => PySem.W.kIn_of Y) ?F (fun _ _ a ns hl ho hS => ⟨a, ns, rfl, hS, hl, ho, fun _ => rfl⟩) (fun _ _ _ _ _ h => by obtain ⟨_, _, _, _, _, _, _, _, _, _, _, _, z⟩ := h; exact z)
  case F =>
    intro w mg fa h KX G hmg
    refine' K85.all_mk KX G hmg ?a0 ?l0 ?c0 ?k0 ?a1 ?l1 ?c1 ?k1 ?a2 ?l2 ?c2 ?k2 ?a3 ?l3 ?c3 ?k3 ?a4 ?l4 ?c4 ?k4 ?a5 ?l5 ?c5 ?k5 ?a6 ?l6 ?c6 ?k6 ?a7 ?l7 ?c7 ?k7 ?a8 ?l8 ?c8 ?k8 ?a9 ?l9 ?c9 ?k9 ?a10 ?l10 ?c10 ?k10 ?a11 ?l11 ?c11 ?k11 ?a12 ?l12 ?c12 ?k12 ?a13 ?l13 ?c13 ?k13 ?a14 ?l14 ?c14 ?k14 ?a15 ?l15 ?c15 ?k15 ?a16 ?l16 ?c16 ?k16 ?a17 ?l17 ?c17 ?k17 ?a18 ?l18 ?c18 ?k18 ?a19 ?l19 ?c19 ?k19 ?a20 ?l20 ?c20 ?k20 ?a21 ?l21 ?c21 ?k21 ?a22 ?l22 ?c22 ?k22 ?a23 ?l23 ?c23 ?k23 ?a24 ?l24 ?c24 ?k24 ?a25 ?l25 ?c25 ?k25 ?a26 ?l26 ?c26 ?k26 ?a27 ?l27 ?c27 ?k27 ?a28 ?l28 ?c28 ?k28 ?a29 ?l29 ?c29 ?k29 ?a30 ?l30 ?c30 ?k30 ?a31 ?l31 ?c31 ?k31 ?a32 ?l32 ?c32 ?k32 ?a33 ?l33 ?c33 ?k33 ?a34 ?l34 ?c34 ?k34 ?a35 ?l35 ?c35 ?k35 ?z_isinstance ?z_int ?z_bool ?z_tuple ?z_len ?z_sorted ?z_all ?z_str ?z_any ?z_enumerate ?z_range ?z_sum ?z_list ?z_max ?z_min ?z_abs ?z_zip ?z_dict ?y_MOST_SIDE ?y_MOST_SIZE ?y_MOST_LEAVES
    (case a0 => k_is)
    (case l0 => k_is)
    (case c0 => k_is)
    (case k0 => k_is)
    (case a1 => k_is)
    (case l1 => k_is)
    (case c1 => k_is)
    (case k1 => k_is)
    (case a2 => k_is)
    (case l2 => k_is)
    (case c2 => k_is)
    (case k2 => k_is)
    (case a3 => k_is)
    (case l3 => k_is)
    (case c3 => k_is)
    (case k3 => k_is)
    (case a4 => k_is)
    (case l4 => k_is)
    (case c4 => k_is)
    (case k4 => k_is)
    (case a5 => k_is)
    (case l5 => k_is)
    (case c5 => k_is)
    (case k5 => k_is)
    (case a6 => k_is)
    (case l6 => k_is)
    (case c6 => k_is)
    (case k6 => k_is)
    (case a7 => k_is)
    (case l7 => k_is)
    (case c7 => k_is)
    (case k7 => k_is)
    (case a8 => k_is)
    (case l8 => k_is)
    (case c8 => k_is)
    (case k8 => k_is)
    (case a9 => k_is)
    (case l9 => k_is)
    (case c9 => k_is)
    (case k9 => k_is)
    (case a10 => k_is)
    (case l10 => k_is)
    (case c10 => k_is)
    (case k10 => k_is)
    (case a11 => k_is)
    (case l11 => k_is)
    (case c11 => k_is)
    (case k11 => k_is)
    (case a12 => k_is)
    (case l12 => k_is)
    (case c12 => k_is)
    (case k12 => k_is)
    (case a13 => k_is)
    (case l13 => k_is)
    (case c13 => k_is)
    (case k13 => k_is)
    (case a14 => k_is)
    (case l14 => k_is)
    (case c14 => k_is)
    (case k14 => k_is)
    (case a15 => k_is)
    (case l15 => k_is)
    (case c15 => k_is)
    (case k15 => k_is)
    (case a16 => k_is)
    (case l16 => k_is)
    (case c16 => k_is)
    (case k16 => k_is)
    (case a17 => k_is)
    (case l17 => k_is)
    (case c17 => k_is)
    (case k17 => k_is)
    (case a18 => k_is)
    (case l18 => k_is)
    (case c18 => k_is)
    (case k18 => k_is)
    (case a19 => k_is)
    (case l19 => k_is)
    (case c19 => k_is)
    (case k19 => k_is)
    (case a20 => k_is)
    (case l20 => k_is)
    (case c20 => k_is)
    (case k20 => k_is)
    (case a21 => k_is)
    (case l21 => k_is)
    (case c21 => k_is)
    (case k21 => k_is)
    (case a22 => k_is)
    (case l22 => k_is)
    (case c22 => k_is)
    (case k22 => k_is)
    (case a23 => k_is)
    (case l23 => k_is)
    (case c23 => k_is)
    (case k23 => k_is)
    (case a24 => k_is)
    (case l24 => k_is)
    (case c24 => k_is)
    (case k24 => k_is)
    (case a25 => k_is)
    (case l25 => k_is)
    (case c25 => k_is)
    (case k25 => k_is)
    (case a26 => k_is)
    (case l26 => k_is)
    (case c26 => k_is)
    (case k26 => k_is)
    (case a27 => k_is)
    (case l27 => k_is)
    (case c27 => k_is)
    (case k27 => k_is)
    (case a28 => k_is)
    (case l28 => k_is)
    (case c28 => k_is)
    (case k28 => k_is)
    (case a29 => k_is)
    (case l29 => k_is)
    (case c29 => k_is)
    (case k29 => k_is)
    (case a30 => k_is)
    (case l30 => k_is)
    (case c30 => k_is)
    (case k30 => k_is)
    (case a31 => k_is)
    (case l31 => k_is)
    (case c31 => k_is)
    (case k31 => k_is)
    (case a32 => k_is)
    (case l32 => k_is)
    (case c32 => k_is)
    (case k32 => k_is)
    (case a33 => k_is)
    (case l33 => k_is)
    (case c33 => k_is)
    (case k33 => k_is)
    (case a34 => k_is)
    (case l34 => k_is)
    (case c34 => k_is)
    (case k34 => k_is)
    (case a35 => k_is)
    (case l35 => k_is)
    (case c35 => k_is)
    (case k35 => k_is)
    (case z_isinstance => k_is)
    (case z_int => k_is)
    (case z_bool => k_is)
    (case z_tuple => k_is)
    (case z_len => k_is)
    (case z_sorted => k_is)
    (case z_all => k_is)
    (case z_str => k_is)
    (case z_any => k_is)
    (case z_enumerate => k_is)
    (case z_range => k_is)
    (case z_sum => k_is)
    (case z_list => k_is)
    (case z_max => k_is)
    (case z_min => k_is)
    (case z_abs => k_is)
    (case z_zip => k_is)
    (case z_dict => k_is)
    (case y_MOST_SIDE => k_is)
    (case y_MOST_SIZE => k_is)
    (case y_MOST_LEAVES => k_is)
#print axioms PySem.Challenge.cw_scriptoria_k85_whole_waste_and_holes_holds
